import PyProof.Rows.All
import Wide.All
import OpenK.AllK
import Wide.FinOn
import PyProof.P3Statements
import KE.SortData
import HandS.Base
import HandS.Call
import HandS.List
import HandS.Comp
import HandS.Dict
import HandS.Iter
import HandS.Text
import HandS.Deep
import HandS.Exc
import HandS.ExcOwn
import HandS.WordsExc
import HandS.IsInst
import HandS.Defaults
import HandS.TupAny
import KE.KTupSum
import HandS.TupLen
import HandS.HeadWalk
import HandS.Property
import HandS.IterVal
import HandS.OwnEq
import KE.KOwnIter
import HandS.StrMore
import HandS.More
import HandS.Zip
import HandS.Conv
import HandS.DictTup
import HandS.SortRule
import KE.KDictWalk
import PyProof.DictMoreH
import HandS.ExcValue
import KE.KDictSum
import PyProof.TupleOfSeq
import HandS.HeadHook1
import HandS.HeadHook2
import HandS.HeadHook3
import HandS.Ends
import HandS.HeadEnd
import HandS.MakeKwOnly
import HandS.Head0
import HandS.Head1
import HandS.Head2
import PySem.Challenge.RW_oncecoin_k34_promised_stays_there
set_option linter.all false
set_option maxRecDepth 100000
set_option maxHeartbeats 0
set_option Elab.async false
/-! The plain language: values, cells, programs, their runs. -/
namespace Py
abbrev Str := PySem.Str

inductive Val where
  | none
  | bool (b : Bool)
  | int (i : Int)
  | str (s : List Nat)
  | tup (xs : List Val)
  | fro (xs : List Int)
  /-- a written tuple of whole numbers -/
  | kt (xs : List Int)
  | ref (n : Nat)
  deriving Inhabited

inductive Ob where
  | list (xs : List Val)
  | dict (tk : Bool) (kvs : List (Val × Val))
  /-- a dict with tuple keys while it is walked -/
  | fdict (kvs : List (Val × Val))
  | inst (c : Str) (fs : List (Str × Val))
  deriving Inhabited

abbrev Mem := List Ob
abbrev Loc := List (Option Val)

mutual
def Val.under (n : Nat) : Val → Bool
  | .none => true
  | .bool _ => true
  | .int _ => true
  | .str _ => true
  | .tup xs => Val.underL n xs
  | .fro _ => true
  | .kt _ => true
  | .ref k => decide (k < n)
def Val.underL (n : Nat) : List Val → Bool
  | [] => true
  | x :: xs => Val.under n x && Val.underL n xs
end
/-! data: no cells in it -/
mutual
def Val.pl : Val → Bool
  | .none => true
  | .bool _ => true
  | .int _ => true
  | .str _ => true
  | .tup xs => Val.plL xs
  | .fro _ => false
  | .kt _ => false
  | .ref _ => false
def Val.plL : List Val → Bool
  | [] => true
  | x :: xs => Val.pl x && Val.plL xs
end
def Ob.under (n : Nat) : Ob → Bool
  | .list xs => Val.underL n xs
  | .dict _ kvs => kvs.all fun p => p.1.under n && p.2.under n
  | .fdict kvs => kvs.all fun p => p.1.under n && p.2.under n
  | .inst _ fs => fs.all fun p => p.2.under n

/-! what == says of data -/
mutual
def Val.eqv : Val → Val → Bool
  | .none, .none => true
  | .bool a, .bool b => a == b
  | .bool a, .int j => (if a then 1 else 0) == j
  | .int i, .bool b => i == (if b then 1 else 0)
  | .int i, .int j => i == j
  | .str x, .str y => x == y
  | .tup xs, .tup ys => Val.eqvL xs ys
  | _, _ => false
def Val.eqvL : List Val → List Val → Bool
  | [], [] => true
  | x :: xs, y :: ys => Val.eqv x y && Val.eqvL xs ys
  | _, _ => false
end

mutual
def Val.depth : Val → Nat
  | .tup xs => Val.depthL xs + 1
  | .none => 0
  | .bool _ => 0
  | .int _ => 0
  | .str _ => 0
  | .fro _ => 0
  | .kt _ => 0
  | .ref _ => 0
def Val.depthL : List Val → Nat
  | [] => 0
  | x :: xs => max (Val.depth x) (Val.depthL xs)
end

inductive Res (α : Type) where
  | ok (a : α) (m : Mem)
  | exc (c : Str) (fs : List (Str × Val)) (m : Mem)
  | err
@[simp] def Res.bind {α β : Type} (r : Res α) (f : α → Mem → Res β) : Res β := match r with
  | .ok a m => f a m
  | .exc c fs m => .exc c fs m
  | .err => .err

inductive Flow where
  | nx (l : Loc) (m : Mem)
  | ret (v : Val) (m : Mem)
  | brk (l : Loc) (m : Mem)
  | cnt (l : Loc) (m : Mem)
  | exc (l : Loc) (c : Str) (fs : List (Str × Val)) (m : Mem)
  | err

inductive BOp where
  | add | sub | mul | fdiv | mod | pow
  deriving DecidableEq
inductive COp where
  | eq | ne | lt | le | gt | ge | isn | notn | mem | nmem
  deriving DecidableEq

inductive Blt where
  | len | min | max | abs | int | sum | all | list | tuple
  deriving DecidableEq
inductive BM where
  | append | pop | reverse | clear | extend
  deriving DecidableEq

/-- methods of texts -/
inductive SM where
  | find | rfind
  deriving DecidableEq

/-- the kinds that isinstance tells -/
inductive TyK where
  | none | bool | int | str | tuple | list | dict
  deriving DecidableEq

inductive Tg where
  | name (i : Nat)
  | tup (ts : List Tg)

mutual
inductive E where
  | lit (v : Val)
  | var (i : Nat)
  | glob (x : Str)
  | bin (o : BOp) (a b : E)
  | neg (a : E)
  | cmp (o : COp) (a b : E)
  | chain (o p : COp) (a b c : E)
  | band (a b : E)
  | bor (a b : E)
  | bnot (a : E)
  | ite (c a b : E)
  | tup (es : List E)
  | lst (es : List E)
  | dct (tk : Bool) (ks vs : List E)
  | call (f : Str) (es : List E)
  | blt (f : Blt) (es : List E)
  | lenO (a : E)
  | tin (neg : Bool) (t : Str) (a : E)
  | tix (t : Str) (a : E)
  | din (neg : Bool) (a d : E)
  | dget (d a : E)
  | dgetD (d a x : E)
  | dpop (d a : E)
  | keysD (d : E)
  | sortP (a : E)
  | callK (f : Str) (es : List E) (k : Str) (z : E)
  | callD (f : Str) (es : List E)
  | listO (a : E)
  | join (o a : E)
  | sm1 (f : SM) (o a : E)
  | bm (o : E) (f : BM) (es : List E)
  | isi (a : E) (ty : TyK)
  | meth (o : E) (f : Str) (es : List E)
  | attr (o : E) (f : Str)
  | idx (a i : E)
  | sliceB (a lo hi : E)
  | sliceL (a lo : E)
  | sliceH (a hi : E)
  | comp (elt : E) (tg : Tg) (it : It)
  | compIf (elt : E) (tg : Tg) (it : It) (cond : E)
inductive It where
  | seq (e : E)
  | own (e : E)
  | range1 (a : E)
  | range2 (a b : E)
  | zip (a b : E)
  | vals (e : E)
end

inductive S where
  | pass
  | expr (e : E)
  | set (i : Nat) (e : E)
  | asg (t : Tg) (e : E)
  | aug (i : Nat) (o : BOp) (e : E)
  | setAttr (o : E) (f : Str) (e : E)
  | setIdx (o i e : E)
  | setD (o i e : E)
  | del (o i : E)
  | lock (e : E) (s : S)
  | ret (e : Option E)
  | ifs (c : E) (a b : List S)
  | whl (c : E) (b : List S)
  | fr (t : Tg) (it : It) (b : List S)
  | brk
  | cnt
  | dead

structure Fn where
  np : Nat
  ns : Nat
  body : List S

/-- an entry of the program: a def, a class (its __init__'s key) -/
inductive Ent where
  | fn (f : Fn)
  | mth (f : Fn)
  | cls (init : Str)
  /-- a method with a keyword-only parameter, a class with such an __init__ -/
  | kw (f : Fn)
  | clsK (init : Str)

structure Prog where
  ent : Str → Option Ent
  meth : Str → Str → Option Str
  flds : Str → List Str
  /-- a property: its getter's key -/
  prop : Str → Str → Option Str
  /-- a table of the module: its rows -/
  tab : Str → Option (List (List Nat × Val))
  /-- __iter__ walks this field -/
  iter : Str → Option Str
  /-- the keyword-only parameter, its default -/
  kwn : Str → Option (Str × Val)
  glob : Str → Option Val

def SZ : Nat := 16777216

def putAttr (f : Str) (v : Val) : List (Str × Val) → List (Str × Val)
  | [] => [(f, v)]
  | (g, x) :: r => if g = f then (g, v) :: r else (g, x) :: putAttr f v r

/-! ### operations on values -/
def b2i (b : Bool) : Int := if b then 1 else 0
def Mem.list (m : Mem) (k : Nat) : Option (List Val) := match m[k]? with
  | some (.list xs) => some xs
  | _ => none
def Mem.seq (m : Mem) (v : Val) : Option (List Val) := match v with
  | .tup xs => some xs
  | .fro xs => some (xs.map .int)
  | .ref k => m.list k
  | _ => none

def big64 : Int := 18446744073709551616
def mulOk (i j : Int) : Prop := (-big64 < i ∧ i < big64) ∨ (-big64 < j ∧ j < big64)
instance (i j : Int) : Decidable (mulOk i j) := by unfold mulOk; infer_instance
def divOk (j : Int) : Prop := j ≠ 0 ∧ j.natAbs < 1073741824
instance (j : Int) : Decidable (divOk j) := by unfold divOk; infer_instance
def powOk (i j : Int) : Prop := 0 ≤ j ∧ j ≤ 1000000 ∧ i.natAbs < 18446744073709551616
instance (i j : Int) : Decidable (powOk i j) := by unfold powOk; infer_instance

def binop (o : BOp) (x y : Val) (m : Mem) : Res Val := match o, x, y with
  | .add, .int i, .int j => .ok (.int (i + j)) m
  | .add, .int i, .bool b => .ok (.int (i + b2i b)) m
  | .add, .str a, .str b => if a.length + b.length ≤ SZ then .ok (.str (a ++ b)) m else .err
  | .add, .tup xs, .tup ys => if xs.length + ys.length ≤ SZ then .ok (.tup (xs ++ ys)) m else .err
  | .add, .ref a, .ref b => match m.list a, m.list b with
    | some xs, some ys => if xs.length + ys.length ≤ SZ then .ok (.ref m.length) (m ++ [.list (xs ++ ys)]) else .err
    | _, _ => .err
  | .sub, .int i, .int j => .ok (.int (i - j)) m
  | .mul, .int i, .int j => if mulOk i j then .ok (.int (i * j)) m else .err
  | .mul, .ref a, .int k => match m.list a with
    | some xs => if (-9223372036854775808 ≤ k ∧ k < 9223372036854775808) ∧ xs.length * k.toNat ≤ SZ then .ok (.ref m.length) (m ++ [.list (List.replicate k.toNat xs).flatten]) else .err
    | none => .err
  | .fdiv, .int i, .int j => if divOk j then .ok (.int (i.fdiv j)) m else .err
  | .mod, .int i, .int j => if 0 < j then .ok (.int (i % j)) m else .err
  | .pow, .int i, .int j => if powOk i j then .ok (.int (i ^ j.toNat)) m else .err
  | _, _, _ => .err

/-- x op= y at a name -/
def augop (o : BOp) (x y : Val) (m : Mem) : Res Val := match o, x, y with
  | .add, .int i, .int j => .ok (.int (i + j)) m
  | .sub, .int i, .int j => .ok (.int (i - j)) m
  | .add, .str a, .str b => if a.length + b.length ≤ SZ then .ok (.str (a ++ b)) m else .err
  | _, _, _ => .err
def negop (x : Val) (m : Mem) : Res Val := match x with
  | .int i => .ok (.int (-i)) m
  | _ => .err

def Val.isNone : Val → Bool
  | .none => true
  | _ => false

/-- data to be compared: no cells in it, not too deep -/
def Val.dat (x : Val) : Bool := x.pl && decide (x.depth ≤ 60)
def datL (xs : List Val) : Bool := Val.plL xs && decide (Val.depthL xs ≤ 59)
def eqop (m : Mem) (x y : Val) : Option Bool := match x, y with
  | .ref a, .ref b => match m.list a, m.list b with
    | some xs, some ys => if datL xs && datL ys then some (Val.eqvL xs ys) else none
    | _, _ => none
  | x, y => if x.dat && y.dat then some (x.eqv y) else none
def ltop (x y : Val) : Option Bool := match x, y with
  | .int i, .int j => some (decide (i < j))
  | .str a, .str b => some (decide (a < b))
  | _, _ => none
/-! dicts: keys are ints and texts, or (tk) tuples of these -/
def flatKey : Val → Bool
  | .int _ => true
  | .str _ => true
  | _ => false
/-- tuples that no constant of a text is -/
def keyTag : List Val → Bool
  | [.int _, .int _] => true
  | .int _ :: .str _ :: _ => true
  | _ => false
def keyOk : Bool → Val → Bool
  | false, x => flatKey x
  | true, .tup xs => xs.all flatKey
  | true, _ => false
def putOk : Bool → Val → Bool
  | false, x => flatKey x
  | true, .tup xs => xs.all flatKey && keyTag xs
  | true, _ => false
def dlook (kvs : List (Val × Val)) (x : Val) : Option Val := (kvs.find? fun p => p.1.eqv x).map (·.2)
def dput (kvs : List (Val × Val)) (x v : Val) : List (Val × Val) := if (kvs.any fun p => p.1.eqv x) = true then kvs.map (fun p => if p.1.eqv x = true then (p.1, v) else p) else kvs ++ [(x, v)]
def ddel (kvs : List (Val × Val)) (x : Val) : List (Val × Val) := kvs.filter fun p => !p.1.eqv x

def memop (m : Mem) (x y : Val) : Option Bool := match y with
  | .str s => match x with
    | .str [c] => if s.length ≤ SZ then some (decide (c ∈ s)) else none
    | _ => none
  | .tup xs => if x.dat && datL xs then some (xs.any fun z => z.eqv x) else none
  | .ref k => match m[k]? with
    | some (.list xs) => if x.dat && datL xs then some (xs.any fun z => z.eqv x) else none
    | _ => none
  | _ => none
def cmpop (o : COp) (x y : Val) (m : Mem) : Option Bool := match o with
  | .eq => eqop m x y
  | .ne => (eqop m x y).map not
  | .lt => ltop x y
  | .gt => ltop y x
  | .le => match x, y with
    | .int i, .int j => some (decide (i ≤ j))
    | _, _ => none
  | .ge => match x, y with
    | .int i, .int j => some (decide (j ≤ i))
    | _, _ => none
  | .isn => match y with
    | .none => some x.isNone
    | _ => none
  | .notn => match y with
    | .none => some (!x.isNone)
    | _ => none
  | .mem => memop m x y
  | .nmem => (memop m x y).map not

def truth (m : Mem) (v : Val) : Option Bool := match v with
  | .none => some false
  | .bool b => some b
  | .int i => some (i != 0)
  | .str s => if s.length ≤ SZ then some (!s.isEmpty) else none
  | .tup xs => some (!xs.isEmpty)
  | .fro xs => some (!xs.isEmpty)
  | .kt _ => none
  | .ref k => match m[k]? with
    | some (.list xs) => some (!xs.isEmpty)
    | _ => none

def lenop (m : Mem) (v : Val) : Option Nat := match v with
  | .str s => if s.length ≤ SZ then some s.length else none
  | .tup xs => some xs.length
  | .fro xs => some xs.length
  | .ref k => match m[k]? with
    | some (.list xs) => some xs.length
    | some (.dict true kvs) => some kvs.length
    | _ => none
  | _ => none

def ixOf (n : Nat) (i : Int) : Option Nat := if 0 ≤ i then (if i < n then some i.toNat else none) else if -(n : Int) ≤ i then some (i + n).toNat else none
def atIx {α : Type} (xs : List α) (i : Int) : Option α := (ixOf xs.length i).bind fun j => xs[j]?
def idxop (m : Mem) (x i : Val) : Option Val := match x, i with
  | .str s, .int k => if s.length ≤ SZ then (atIx s k).map fun c => .str [c] else none
  | .tup xs, .int k => atIx xs k
  | .fro xs, .int k => (atIx xs k).map .int
  | .ref a, i => match m[a]? with
    | some (.list xs) => match i with
      | .int k => atIx xs k
      | _ => none
    | _ => none
  | _, _ => none
def cutIx (n d : Nat) : Option Int → Nat
  | none => d
  | some i => if i < 0 then (i + n).toNat else min i.toNat n
def cut {α : Type} (xs : List α) (lo hi : Option Int) : List α := (xs.drop (cutIx xs.length 0 lo)).take (cutIx xs.length xs.length hi - cutIx xs.length 0 lo)
def sliceop (m : Mem) (x : Val) (lo hi : Option Int) : Res Val := match x with
  | .str s => if s.length ≤ SZ then .ok (.str (cut s lo hi)) m else .err
  | .tup xs => .ok (.tup (cut xs lo hi)) m
  | .ref k => match m.list k with
    | some xs => .ok (.ref m.length) (m ++ [.list (cut xs lo hi)])
    | none => .err
  | _ => .err

def intsOf : List Val → Option (List Int)
  | [] => some []
  | .int i :: r => (intsOf r).map (i :: ·)
  | _ :: _ => none
def boolsOf : List Val → Option (List Bool)
  | [] => some []
  | .bool i :: r => (boolsOf r).map (i :: ·)
  | _ :: _ => none

def tyOf (m : Mem) (v : Val) : Option TyK := match v with
  | .none => some .none
  | .bool _ => some .bool
  | .int _ => some .int
  | .str _ => some .str
  | .tup _ => some .tuple
  | .fro _ => Option.none
  | .kt _ => Option.none
  | .ref k => match m[k]? with
    | some (.list _) => some .list
    | some (.dict _ _) => some .dict
    | _ => Option.none
def isiK (t c : TyK) : Bool := decide (t = c) || (decide (t = .bool) && decide (c = .int))

def bltop (f : Blt) (vs : List Val) (m : Mem) : Res Val := match f with
  | .len => match vs with
    | [v] => match lenop m v with
      | some n => .ok (.int n) m
      | none => .err
    | _ => .err
  | .min => match vs with
    | [.int i, .int j] => .ok (.int (if j < i then j else i)) m
    | _ => .err
  | .max => match vs with
    | [.int i, .int j] => .ok (.int (if j > i then j else i)) m
    | _ => .err
  | .abs => match vs with
    | [.int i] => .ok (.int (if i < 0 then -i else i)) m
    | _ => .err
  | .int => match vs with
    | [.int i] => .ok (.int i) m
    | [.bool b] => .ok (.int (if b then 1 else 0)) m
    | _ => .err
  | .sum => match vs with
    | [v] => match (m.seq v).bind intsOf with
      | some ns => .ok (.int ns.sum) m
      | none => .err
    | _ => .err
  | .all => match vs with
    | [.ref k] => match (m.list k).bind boolsOf with
      | some bs => .ok (.bool (bs.all id)) m
      | none => .err
    | _ => .err
  | .list => match vs with
    | [v] => match m.seq v with
      | some xs => .ok (.ref m.length) (m ++ [.list xs])
      | none => .err
    | _ => .err
  | .tuple => match vs with
    | [v] => match m.seq v with
      | some xs => .ok (.tup xs) m
      | none => .err
    | _ => .err

/-- the receiver is of the method's type -/
def recvOk (f : BM) (m : Mem) (x : Val) : Bool := match x with
  | .ref k => (m.list k).isSome
  | _ => false
/-- methods of built-in types -/
def bmop (f : BM) (o : Val) (vs : List Val) (m : Mem) : Res Val := match f with
  | .append => match o, vs with
    | .ref k, [v] => match m.list k with
      | some xs => if xs.length < SZ then .ok .none (m.set k (.list (xs ++ [v]))) else .err
      | none => .err
    | _, _ => .err
  | .pop => match o, vs with
    | .ref k, [] => match m.list k with
      | some xs => match xs[xs.length - 1]? with
        | some y => .ok y (m.set k (.list xs.dropLast))
        | none => .err
      | none => .err
    | .ref k, [.int i] => match m.list k with
      | some xs => match (ixOf xs.length i).bind fun j => (xs[j]?).map fun y => (j, y) with
        | some p => if -9223372036854775808 ≤ i ∧ i < 9223372036854775808 then .ok p.2 (m.set k (.list (xs.eraseIdx p.1))) else .err
        | none => .err
      | none => .err
    | _, _ => .err
  | .extend => match o, vs with
    | .ref k, [.ref j] => match m.list k, m.list j with
      | some xs, some ys => if xs.length + ys.length ≤ SZ ∧ k ≠ j then .ok .none (m.set k (.list (xs ++ ys))) else .err
      | _, _ => .err
    | _, _ => .err
  | .clear => match o, vs with
    | .ref k, [] => match m.list k with
      | some _ => .ok .none (m.set k (.list []))
      | none => .err
    | _, _ => .err
  | .reverse => match o, vs with
    | .ref k, [] => match m.list k with
      | some xs => .ok .none (m.set k (.list xs.reverse))
      | none => .err
    | _, _ => .err

/-! ### dropping cells that nothing holds -/
open Classical in
noncomputable def gc (m0 : Mem) (r : Res Val) : Res Val := match r with
  | .ok v m =>
    let n := m0.length
    let p := m.take n
    if n ≤ m.length ∧ ∀ (i : Nat) (o : Ob), p[i]? = some o → m0[i]? = some o ∨ o.under n = true then
      if v.under n = true then .ok v p
      else match v with
        | .ref k => match m[k]? with
          | some o => if o.under n = true ∧ n ≤ k then .ok (.ref n) (p ++ [o]) else .ok v m
          | none => .ok v m
        | _ => .ok v m
    else .ok v m
  | r => r

/-! ### targets -/
mutual
def assignT (m : Mem) : Tg → Val → Loc → Option Loc
  | .name i, v, l => some (l.set i (some v))
  | .tup ts, v, l => match v with
    | .tup xs => assignTs m ts xs l
    | .kt xs => assignTs m ts (xs.map .int) l
    | _ => none
def assignTs (m : Mem) : List Tg → List Val → Loc → Option Loc
  | [], [], l => some l
  | t :: ts, x :: xs, l => (assignT m t x l).bind fun l' => assignTs m ts xs l'
  | _, _, _ => none
end

abbrev Calls := Str → List Val → Mem → Res Val

/-- a list that is walked stands still -/
def still (k : Option (Nat × List Val)) (m : Mem) : Prop := match k with
  | none => True
  | some (a, xs) => m.list a = some xs
noncomputable instance (k : Option (Nat × List Val)) (m : Mem) : Decidable (still k m) := Classical.propDecidable _

mutual
def Tg.slots : Tg → List Nat
  | .name i => [i]
  | .tup ts => Tg.slotsL ts
def Tg.slotsL : List Tg → List Nat
  | [] => []
  | t :: ts => Tg.slots t ++ Tg.slotsL ts
end
def wipeL (l : Loc) : List Nat → Loc
  | [] => l
  | v :: vs => (wipeL l vs).set v none

/-- the turns of a comprehension: el is asked for an item's value, none: the item is left out -/
noncomputable def compLoop (chk : Option (Nat × List Val)) (el : Val → Mem → Res (Option Val)) : List Val → Mem → Res (List Val)
  | [], m => if still chk m then .ok [] m else .err
  | x :: xs, m => if still chk m then (el x m).bind fun o m1 => (compLoop chk el xs m1).bind fun ys m2 => .ok (o.toList ++ ys) m2 else .err
def compEnd (r : Res (List Val)) : Res Val := match r with
  | .ok ys m => if ys.length ≤ SZ then .ok (.ref m.length) (m ++ [.list ys]) else .err
  | _ => .err
/-- the item's turn -/
def compEl (t : Tg) (l : Loc) (g : Loc → Mem → Res Val) (x : Val) (m : Mem) : Res (Option Val) := match assignT m t x (wipeL l t.slots) with
  | some l' => (g l' m).bind fun y m1 => .ok (some y) m1
  | none => .err
def compElIf (t : Tg) (l : Loc) (c g : Loc → Mem → Res Val) (x : Val) (m : Mem) : Res (Option Val) := match assignT m t x (wipeL l t.slots) with
  | some l' => (c l' m).bind fun b m1 => match truth m1 b with
    | some true => (g l' m1).bind fun y m2 => .ok (some y) m2
    | some false => .ok none m1
    | none => .err
  | none => .err

def intR (v : Val) (m : Mem) (f : Int → Res Val) : Res Val := match v with
  | .int i => f i
  | _ => .err
def boolR (r : Res Val) (m : Mem → Val → Option Bool) (f : Bool → Mem → Res Val) : Res Val := r.bind fun v m1 => match m m1 v with
  | some b => f b m1
  | none => .err

/-- len(x) by x's own __len__ -/
def lenR (P : Prog) (C : Calls) (x : Val) (m : Mem) : Res Val := match x with
  | .ref k => match m[k]? with
    | some (.inst c _) => match P.meth c "__len__" with
      | some q => match C q [x] m with
        | .ok (.int n) m2 => if 0 ≤ n ∧ n < 9223372036854775808 then .ok (.int n) m2 else .err
        | _ => .err
      | none => .err
    | _ => .err
  | _ => .err
/-- the list that x's own __iter__ walks -/
def iterL (P : Prog) (x : Val) (m : Mem) : Option Nat := match x with
  | .ref k => match m[k]? with
    | some (.inst c fs) => match P.iter c with
      | some f => match fs.lookup f with
        | some (.ref l) => if (m.list l).isSome = true then some l else none
        | _ => none
      | none => none
    | _ => none
  | _ => none
/-- list(x) by x's own __iter__ -/
def listR (P : Prog) (C : Calls) (x : Val) (m : Mem) : Res Val := match iterL P x m with
  | some l => match lenR P C x m with
    | .ok (.int n) m2 => if n ≤ SZ then match m2.list l with
        | some xs => .ok (.ref m2.length) (m2 ++ [.list xs])
        | none => .err
      else .err
    | _ => .err
  | none => .err
def ownR (P : Prog) (x : Val) (m : Mem) : Res (List Val × Option (Nat × List Val)) := match iterL P x m with
  | some l => match m.list l with
    | some xs => .ok (xs, some (l, xs)) m
    | none => .err
  | none => .err
/-- x in TABLE, x not in TABLE -/
def tinR (P : Prog) (neg : Bool) (t : Str) (x : Val) (m : Mem) : Res Val := match x with
  | .str s => match P.tab t with
    | some rows => .ok (.bool ((rows.lookup s).isSome != neg)) m
    | none => .err
  | _ => .err
/-- TABLE[x] -/
def tixR (P : Prog) (t : Str) (x : Val) (m : Mem) : Res Val := match x with
  | .str s => match P.tab t with
    | some rows => match rows.lookup s with
      | some v => .ok v m
      | none => .err
    | none => .err
  | _ => .err
/-- zip of two tuples -/
def zipR (x y : Val) (m : Mem) : Res (List Val × Option (Nat × List Val)) := match x, y with
  | .tup xs, .tup ys => .ok ((xs.zip ys).map fun p => .tup [p.1, p.2], none) m
  | _, _ => .err
/-! dicts with tuple keys -/
def dctOf (m : Mem) (x : Val) : Option (Nat × List (Val × Val)) := match x with
  | .ref k => match m[k]? with
    | some (.dict true kvs) => some (k, kvs)
    | _ => none
  | _ => none
def dinR (neg : Bool) (x d : Val) (m : Mem) : Res Val := match dctOf m d with
  | some (_, kvs) => if putOk true x = true then .ok (.bool ((dlook kvs x).isSome != neg)) m else .err
  | none => .err
def dgetR (d x : Val) (m : Mem) : Res Val := match dctOf m d with
  | some (_, kvs) => if putOk true x = true then (match dlook kvs x with
    | some v => .ok v m
    | none => .err) else .err
  | none => .err
def isDctR (d : Val) (m : Mem) (r : Res Val) : Res Val := match dctOf m d with
  | some _ => r
  | none => .err
def dgetDR (d x y : Val) (m : Mem) : Res Val := match dctOf m d with
  | some (_, kvs) => if putOk true x = true then .ok ((dlook kvs x).getD y) m else .err
  | none => .err
def dpopR (d x : Val) (m : Mem) : Res Val := match dctOf m d with
  | some (k, kvs) => if putOk true x = true then (match dlook kvs x with
    | some v => .ok v (m.set k (.dict true (ddel kvs x)))
    | none => .err) else .err
  | none => .err
def keysR (d : Val) (m : Mem) : Res Val := match dctOf m d with
  | some (_, kvs) => .ok (.ref m.length) (m ++ [.list (kvs.map (·.1))])
  | none => .err
def valsR (d : Val) (m : Mem) : Res (List Val × Option (Nat × List Val)) := match d with
  | .ref k => match m[k]? with
    | some (.fdict kvs) => .ok (kvs.map (·.2), none) m
    | _ => .err
  | _ => .err
def dputF (v x y : Val) (l : Loc) (m : Mem) : Flow := match dctOf m x with
  | some (k, kvs) => if putOk true y = true ∧ kvs.length < SZ then .nx l (m.set k (.dict true (dput kvs y v))) else .err
  | none => .err
def ddelF (x y : Val) (l : Loc) (m : Mem) : Flow := match dctOf m x with
  | some (k, kvs) => if putOk true y = true ∧ (dlook kvs y).isSome = true then .nx l (m.set k (.dict true (ddel kvs y))) else .err
  | none => .err
/-- the dict at k is no longer locked -/
def unlockF (k : Nat) (kvs : List (Val × Val)) : Flow → Flow
  | .nx l m => .nx l (m.set k (.dict true kvs))
  | .ret v m => .ret v (m.set k (.dict true kvs))
  | .brk l m => .brk l (m.set k (.dict true kvs))
  | .cnt l m => .cnt l (m.set k (.dict true kvs))
  | .exc _ _ _ _ => .err
  | .err => .err
def lockF (r : Res Val) (m : Mem) (g : Mem → Flow) : Flow := match r with
  | .ok (.ref k) _ => match m[k]? with
    | some (.dict true kvs) => unlockF k kvs (g (m.set k (.fdict kvs)))
    | _ => .err
  | _ => .err
/-! pairs of ints, sorted -/
def pairsOf : List Val → Option (List (Int × Int))
  | [] => some []
  | .tup [.int a, .int b] :: r => (pairsOf r).map ((a, b) :: ·)
  | _ :: _ => none
def leP (p q : Int × Int) : Bool := decide (p.1 < q.1 ∨ (p.1 = q.1 ∧ p.2 ≤ q.2))
def insP (p : Int × Int) : List (Int × Int) → List (Int × Int)
  | [] => [p]
  | q :: r => if leP p q = true then p :: q :: r else q :: insP p r
def sortPs (l : List (Int × Int)) : List (Int × Int) := l.foldr insP []
def pv (p : Int × Int) : Val := .tup [.int p.1, .int p.2]
/-! keys: tuples of ints and texts, sorted -/
def encI : Int ⊕ List Nat → PySem.PyData
  | .inl i => .int i
  | .inr s => .str ⟨s.toArray⟩
def encK (t : List (Int ⊕ List Nat)) : PySem.PyData := .tuple (t.map encI)
def itV : Int ⊕ List Nat → Val
  | .inl i => .int i
  | .inr s => .str s
def itemsOf : List Val → Option (List (Int ⊕ List Nat))
  | [] => some []
  | .int i :: r => (itemsOf r).map (.inl i :: ·)
  | .str s :: r => (itemsOf r).map (.inr s :: ·)
  | _ :: _ => none
def keysOf : List Val → Option (List (List (Int ⊕ List Nat)))
  | [] => some []
  | .tup xs :: r => if keyTag xs = true then (itemsOf xs).bind fun t => (keysOf r).map (t :: ·) else none
  | _ :: _ => none
def alikeK (ts : List (List (Int ⊕ List Nat))) : Bool := ts.all fun a => ts.all fun b => PySem.W.alike (encK a) (encK b)
def sortKs (ts : List (List (Int ⊕ List Nat))) : List (List (Int ⊕ List Nat)) := ts.mergeSort (PySem.W.dataLe false encK)
def sortKR (vs : List Val) (m : Mem) : Res Val := match keysOf vs with
  | some ts => if alikeK ts = true ∧ ts.length ≤ SZ then .ok (.ref m.length) (m ++ [.list ((sortKs ts).map fun t => .tup (t.map itV))]) else .err
  | none => .err
def sortPR (x : Val) (m : Mem) : Res Val := match x with
  | .ref k => match m[k]? with
    | some (.list vs) => match pairsOf vs with
      | some ps => .ok (.ref m.length) (m ++ [.list ((sortPs ps).map pv)])
      | none => sortKR vs m
    | some (.dict true kvs) => sortKR (kvs.map (·.1)) m
    | _ => .err
  | .tup vs => sortKR vs m
  | _ => .err
def strsOf : List Val → Option (List (List Nat))
  | [] => some []
  | .str s :: r => (strsOf r).map (s :: ·)
  | _ :: _ => none
def joinL (sep : List Nat) : List (List Nat) → List Nat
  | [] => []
  | [x] => x
  | x :: y :: r => x ++ sep ++ joinL sep (y :: r)
def joinR (s : List Nat) (a : Val) (m : Mem) : Res Val := match (m.seq a).bind strsOf with
  | some ys => if (ys.map List.length).sum + ys.length * s.length ≤ SZ then .ok (.str (joinL s ys)) m else .err
  | none => .err
def strR (x : Val) (f : List Nat → Res Val) : Res Val := match x with
  | .str s => f s
  | _ => .err
def smop (f : SM) (s t : List Nat) : Val := match f with
  | .find => .int (PySem.Txt.find ⟨s.toArray⟩ ⟨t.toArray⟩)
  | .rfind => .int (PySem.Txt.rfind ⟨s.toArray⟩ ⟨t.toArray⟩)
/-- o.f, f a field or a property -/
def attrP (P : Prog) (C : Calls) (f : Str) (x : Val) (m : Mem) : Res Val := match x with
  | .ref k => match m[k]? with
    | some (.inst c fs) => match P.prop c f with
      | some q => match C q [x] m with
        | .ok v m2 => .ok v m2
        | _ => .err
      | none => match fs.lookup f with
        | some v => .ok v m
        | none => .err
    | _ => .err
  | _ => .err

mutual
noncomputable def evalE (P : Prog) (C : Calls) : E → Loc → Mem → Res Val
  | .lit v, _, m => .ok v m
  | .var i, l, m => match l[i]? with
    | some (some v) => .ok v m
    | _ => .err
  | .glob x, _, m => match P.glob x with
    | some v => .ok v m
    | none => .err
  | .bin o a b, l, m => (evalE P C a l m).bind fun x m1 => (evalE P C b l m1).bind fun y m2 => binop o x y m2
  | .neg a, l, m => (evalE P C a l m).bind fun x m1 => negop x m1
  | .cmp o a b, l, m => (evalE P C a l m).bind fun x m1 => (evalE P C b l m1).bind fun y m2 => match cmpop o x y m2 with
    | some c => .ok (.bool c) m2
    | none => .err
  | .chain o p a b c, l, m => (evalE P C a l m).bind fun x m1 => (evalE P C b l m1).bind fun y m2 => match cmpop o x y m2 with
    | some true => (evalE P C c l m2).bind fun z m3 => match cmpop p y z m3 with
      | some d => .ok (.bool d) m3
      | none => .err
    | some false => .ok (.bool false) m2
    | none => .err
  | .band a b, l, m => (evalE P C a l m).bind fun x m1 => match x with
    | .bool true => evalE P C b l m1
    | .bool false => .ok (.bool false) m1
    | _ => .err
  | .bor a b, l, m => (evalE P C a l m).bind fun x m1 => match x with
    | .bool false => evalE P C b l m1
    | .bool true => .ok (.bool true) m1
    | _ => .err
  | .bnot a, l, m => (evalE P C a l m).bind fun x m1 => match x with
    | .bool b => .ok (.bool (!b)) m1
    | _ => .err
  | .ite c a b, l, m => (evalE P C c l m).bind fun x m1 => match truth m1 x with
    | some true => evalE P C a l m1
    | some false => evalE P C b l m1
    | none => .err
  | .tup es, l, m => (evalL P C es l m).bind fun vs m1 => if vs.length ≤ SZ then .ok (.tup vs) m1 else .err
  | .lst es, l, m => (evalL P C es l m).bind fun vs m1 => if vs.length ≤ SZ then .ok (.ref m1.length) (m1 ++ [.list vs]) else .err
  | .dct tk ks vs, l, m => (evalL P C ks l m).bind fun xs m1 => (evalL P C vs l m1).bind fun ys m2 => match xs, ys with
    | [], [] => .ok (.ref m2.length) (m2 ++ [.dict tk []])
    | _, _ => .err
  | .call f es, l, m => (evalL P C es l m).bind fun vs m1 => C f vs m1
  | .callK f es _ z, l, m => (evalL P C es l m).bind fun vs m1 => (evalE P C z l m1).bind fun w m2 => C f (vs ++ [w]) m2
  | .callD f es, l, m => (evalL P C es l m).bind fun vs m1 => match P.ent f with
    | some (.clsK i) => match P.kwn i with
      | some (_, w) => C f (vs ++ [w]) m1
      | none => .err
    | _ => .err
  | .blt f es, l, m => gc m ((evalL P C es l m).bind fun vs m1 => bltop f vs m1)
  | .isi a ty, l, m => (evalE P C a l m).bind fun x m1 => match tyOf m1 x with
    | some t => .ok (.bool (isiK t ty)) m1
    | none => .err
  | .meth o f es, l, m => (evalE P C o l m).bind fun x m1 => match x with
    | .ref k => match m1[k]? with
      | some (.inst c fs) => match P.meth c f with
        | some q => if (fs.lookup f).isNone = true then (evalL P C es l m1).bind fun vs m2 => C q (x :: vs) m2 else .err
        | none => .err
      | _ => .err
    | _ => .err
  | .bm o f es, l, m => (evalE P C o l m).bind fun x m1 => if recvOk f m1 x = true then (evalL P C es l m1).bind fun vs m2 => bmop f x vs m2 else .err
  | .attr o f, l, m => (evalE P C o l m).bind fun x m1 => attrP P C f x m1
  | .tin neg t a, l, m => (evalE P C a l m).bind fun x m1 => tinR P neg t x m1
  | .tix t a, l, m => (evalE P C a l m).bind fun x m1 => tixR P t x m1
  | .din neg a d, l, m => (evalE P C a l m).bind fun x m1 => (evalE P C d l m1).bind fun y m2 => dinR neg x y m2
  | .dget d a, l, m => (evalE P C d l m).bind fun x m1 => (evalE P C a l m1).bind fun y m2 => dgetR x y m2
  | .dgetD d a z, l, m => (evalE P C d l m).bind fun x m1 => isDctR x m1 ((evalE P C a l m1).bind fun y m2 => (evalE P C z l m2).bind fun w m3 => dgetDR x y w m3)
  | .dpop d a, l, m => (evalE P C d l m).bind fun x m1 => isDctR x m1 ((evalE P C a l m1).bind fun y m2 => dpopR x y m2)
  | .keysD d, l, m => (evalE P C d l m).bind fun x m1 => keysR x m1
  | .sortP a, l, m => (evalE P C a l m).bind fun x m1 => sortPR x m1
  | .lenO a, l, m => (evalE P C a l m).bind fun x m1 => lenR P C x m1
  | .listO a, l, m => (evalE P C a l m).bind fun x m1 => listR P C x m1
  | .sm1 f o a, l, m => (evalE P C o l m).bind fun x m1 => strR x fun s => (evalE P C a l m1).bind fun y m2 => strR y fun t => .ok (smop f s t) m2
  | .join o a, l, m => gc m ((evalE P C o l m).bind fun x m1 => strR x fun s => (evalE P C a l m1).bind fun y m2 => joinR s y m2)
  | .idx a i, l, m => (evalE P C a l m).bind fun x m1 => (evalE P C i l m1).bind fun y m2 => match idxop m2 x y with
    | some v => .ok v m2
    | none => .err
  | .sliceB a lo hi, l, m => (evalE P C a l m).bind fun x m1 => (evalE P C lo l m1).bind fun p m2 => intR p m2 fun i => (evalE P C hi l m2).bind fun q m3 => intR q m3 fun j => sliceop m3 x (some i) (some j)
  | .sliceL a lo, l, m => (evalE P C a l m).bind fun x m1 => (evalE P C lo l m1).bind fun p m2 => intR p m2 fun i => sliceop m2 x (some i) none
  | .sliceH a hi, l, m => (evalE P C a l m).bind fun x m1 => (evalE P C hi l m1).bind fun q m3 => intR q m3 fun j => sliceop m3 x none (some j)
  | .comp elt t it, l, m => (evalI P C it l m).bind fun w m1 => compEnd (compLoop w.2 (compEl t l (evalE P C elt)) w.1 m1)
  | .compIf elt t it c, l, m => (evalI P C it l m).bind fun w m1 => compEnd (compLoop w.2 (compElIf t l (evalE P C c) (evalE P C elt)) w.1 m1)
noncomputable def evalL (P : Prog) (C : Calls) : List E → Loc → Mem → Res (List Val)
  | [], _, m => .ok [] m
  | e :: es, l, m => (evalE P C e l m).bind fun x m1 => (evalL P C es l m1).bind fun xs m2 => .ok (x :: xs) m2
noncomputable def evalI (P : Prog) (C : Calls) : It → Loc → Mem → Res (List Val × Option (Nat × List Val))
  | .seq e, l, m => (evalE P C e l m).bind fun x m1 => match x with
    | .tup xs => .ok (xs, none) m1
    | .fro xs => .ok (xs.map .int, none) m1
    | .ref k => match m1.list k with
      | some xs => .ok (xs, some (k, xs)) m1
      | none => .err
    | .str s => .ok (s.map fun c => .str [c], none) m1
    | _ => .err
  | .own a, l, m => (evalE P C a l m).bind fun x m1 => ownR P x m1
  | .range1 a, l, m => (evalE P C a l m).bind fun x m1 => match x with
    | .int j => if -4611686018427387904 ≤ j ∧ j < 4611686018427387904 then .ok ((List.range j.toNat).map fun (i : Nat) => .int i, none) m1 else .err
    | _ => .err
  | .range2 a b, l, m => (evalE P C a l m).bind fun x m1 => (evalE P C b l m1).bind fun y m2 => match x, y with
    | .int i, .int j => if (-4611686018427387904 ≤ i ∧ i < 4611686018427387904) ∧ -4611686018427387904 ≤ j ∧ j < 4611686018427387904 then .ok ((List.range (j - i).toNat).map fun (k : Nat) => .int (i + k), none) m2 else .err
    | _, _ => .err
  | .zip a b, l, m => (evalE P C a l m).bind fun x m1 => (evalE P C b l m1).bind fun y m2 => zipR x y m2
  | .vals e, l, m => (evalE P C e l m).bind fun x m1 => valsR x m1
end

def bindF (l : Loc) (r : Res Val) (f : Val → Mem → Flow) : Flow := match r with
  | .ok v m => f v m
  | .exc c fs m => .exc l c fs m
  | .err => .err
def Flow.seq (r : Flow) (f : Loc → Mem → Flow) : Flow := match r with
  | .nx l m => f l m
  | r => r

/-- the turns of a for -/
noncomputable def forLoop (chk : Option (Nat × List Val)) (t : Tg) (b : Loc → Mem → Flow) : List Val → Loc → Mem → Flow
  | [], l, m => if still chk m then .nx l m else .err
  | x :: xs, l, m => if still chk m then match assignT m t x l with
    | some l' => match b l' m with
      | .nx l2 m2 => forLoop chk t b xs l2 m2
      | .cnt l2 m2 => forLoop chk t b xs l2 m2
      | .brk l2 m2 => .nx l2 m2
      | r => r
    | none => .err
    else .err
/-- the turns of a while, at most n -/
def whileLoop (c : Loc → Mem → Res Val) (b : Loc → Mem → Flow) : Nat → Loc → Mem → Flow
  | 0, _, _ => .err
  | n + 1, l, m => bindF l (c l m) fun v m1 => match truth m1 v with
    | some true => match b l m1 with
      | .nx l2 m2 => whileLoop c b n l2 m2
      | .cnt l2 m2 => whileLoop c b n l2 m2
      | .brk l2 m2 => .nx l2 m2
      | r => r
    | some false => .nx l m1
    | none => .err
def WMAX : Nat := 100000000

mutual
noncomputable def execS (P : Prog) (C : Calls) : S → Loc → Mem → Flow
  | .pass, l, m => .nx l m
  | .expr e, l, m => bindF l (evalE P C e l m) fun _ m1 => .nx l m1
  | .set i e, l, m => bindF l (evalE P C e l m) fun v m1 => .nx (l.set i (some v)) m1
  | .asg t e, l, m => bindF l (evalE P C e l m) fun v m1 => match assignT m1 t v l with
    | some l' => .nx l' m1
    | none => .err
  | .aug i o e, l, m => match l[i]? with
    | some (some x) => bindF l (evalE P C e l m) fun y m1 => bindF l (augop o x y m1) fun v m2 => .nx (l.set i (some v)) m2
    | _ => .err
  | .setAttr o f e, l, m => bindF l (evalE P C e l m) fun v m1 => bindF l (evalE P C o l m1) fun x m2 => match x with
    | .ref k => match m2[k]? with
      | some (.inst c fs) => if fs.length < 1000 ∧ (P.flds c).contains f = true then .nx l (m2.set k (.inst c (putAttr f v fs))) else .err
      | _ => .err
    | _ => .err
  | .setIdx o i e, l, m => bindF l (evalE P C e l m) fun v m1 => bindF l (evalE P C o l m1) fun x m2 => bindF l (evalE P C i l m2) fun y m3 => match x, y with
    | .ref k, j => match m3[k]? with
      | some (.list xs) => match j with
        | .int i => match ixOf xs.length i with
          | some n => .nx l (m3.set k (.list (xs.set n v)))
          | none => .err
        | _ => .err
      | _ => .err
    | _, _ => .err
  | .setD o i e, l, m => bindF l (evalE P C e l m) fun v m1 => bindF l (evalE P C o l m1) fun x m2 => bindF l (evalE P C i l m2) fun y m3 => dputF v x y l m3
  | .del o i, l, m => bindF l (evalE P C o l m) fun x m1 => bindF l (evalE P C i l m1) fun y m2 => ddelF x y l m2
  | .lock e s, l, m => lockF (evalE P C e l m) m fun m1 => execS P C s l m1
  | .ret none, _, m => .ret .none m
  | .ret (some e), l, m => bindF l (evalE P C e l m) fun v m1 => .ret v m1
  | .ifs c a b, l, m => bindF l (evalE P C c l m) fun v m1 => match truth m1 v with
    | some true => execB P C a l m1
    | some false => execB P C b l m1
    | none => .err
  | .whl c b, l, m => whileLoop (evalE P C c) (execB P C b) WMAX l m
  | .fr t it b, l, m => match evalI P C it l m with
    | .ok w m1 => forLoop w.2 t (execB P C b) w.1 l m1
    | .exc c fs m1 => .exc l c fs m1
    | .err => .err
  | .brk, l, m => .brk l m
  | .cnt, l, m => .cnt l m
  | .dead, _, _ => .err
noncomputable def execB (P : Prog) (C : Calls) : List S → Loc → Mem → Flow
  | [], l, m => .nx l m
  | s :: r, l, m => (execS P C s l m).seq (execB P C r)
end

def retOf (r : Flow) : Res Val := match r with
  | .nx _ m => .ok .none m
  | .ret v m => .ok v m
  | .exc _ c fs m => .exc c fs m
  | _ => .err
def start (ns : Nat) (vs : List Val) : Loc := vs.map some ++ List.replicate (ns - vs.length) none

/-- what a class's call gives -/
def mkG (n : Nat) (v : Val) (m : Mem) : Res Val := match v with
  | .none => .ok (.ref n) m
  | _ => .err
/-- a call, d calls deep -/
noncomputable def callN (P : Prog) : Nat → Calls
  | 0, _, _, _ => .err
  | d + 1, f, vs, m => match P.ent f with
    | some (.fn fd) => if vs.length = fd.np then gc m (retOf (execB P (callN P d) fd.body (start fd.ns vs) m)) else .err
    | some (.mth fd) => if vs.length = fd.np then gc m (retOf (execB P (callN P d) fd.body (start fd.ns vs) m)) else .err
    | some (.cls init) => gc m ((callN P d init (.ref m.length :: vs) (m ++ [.inst f []])).bind (mkG m.length))
    | some (.kw fd) => if vs.length = fd.np then gc m (retOf (execB P (callN P d) fd.body (start fd.ns vs) m)) else .err
    | some (.clsK init) => gc m ((callN P d init (.ref m.length :: vs) (m ++ [.inst f []])).bind (mkG m.length))
    | none => .err
end Py

namespace Py
open PySem PySem.Spec PyProof.Rows L2

/-! ### what stands for what -/
def sv (s : List Nat) : PySem.Str := ⟨s.toArray⟩
theorem sv_list (s : List Nat) : (sv s).cps.toList = s := by simp [sv]
theorem sv_len (s : List Nat) : (sv s).length = s.length := by simp [sv, PySem.Str.length]
theorem sv_app (a b : List Nat) : sv a ++ sv b = sv (a ++ b) := by
  show PySem.Str.append _ _ = _
  simp [sv, PySem.Str.append]
theorem sv_of (x : PySem.Str) : sv x.cps.toList = x := by simp [sv]
theorem sv_inj {a b : List Nat} (h : sv a = sv b) : a = b := by
  have := congrArg (fun x : PySem.Str => x.cps.toList) h
  simpa [sv] using this

def okS (s : List Nat) : Bool := s.all fun c => decide (c < 1114112)
theorem okS_app {a b : List Nat} (ha : okS a = true) (hb : okS b = true) : okS (a ++ b) = true := by
  unfold okS at *
  rw [List.all_append, ha, hb]; rfl
theorem okS_mem {a b : List Nat} (ha : okS a = true) (h : ∀ c, c ∈ b → c ∈ a) : okS b = true := by
  unfold okS at *
  rw [List.all_eq_true] at *
  exact fun c hc => ha c (h c hc)

structure Wd where
  K : PySem.W.Frag
  cad : PySem.Str → Addr

/-- a list that stands still: the script -/
def SqF (K : PySem.W.Frag) (H : Hp) (a : Addr) (xs : List V) : Prop := (∃ o, H a = some (.frz o (.lst xs))) ∨ ((∀ H' : Hp, SqL K H' a xs) ∧ True)
theorem SqF.l {K : PySem.W.Frag} {H : Hp} {a : Addr} {xs : List V} (h : SqF K H a xs) : SqL K H a xs := h.elim (fun ⟨o, e⟩ => .inl (.inr ⟨o, e⟩)) fun z => z.1 H
/-- what stands still -/
inductive Stl : HO → Prop
  | tup (xs : List V) : Stl (.tup xs)
  | frz (o : Obj) (u : HO) : Stl (.frz o u)
inductive Stl0 : HO → Prop
  | tup (xs : List V) : Stl0 (.tup xs)
  | frz (o : Obj) (xs : List V) : Stl0 (.frz o (.lst xs))
theorem Stl0.s {u : HO} (h : Stl0 u) : Stl u := by cases h <;> constructor
mutual
inductive Rep (K : PySem.W.Frag) (ρ : Nat → Addr) (n : Nat) (H : Hp) : Val → V → Prop where
  | none : Rep K ρ n H .none .non
  | bool (b : Bool) : Rep K ρ n H (.bool b) (.bl b)
  | int (i : Int) : Rep K ρ n H (.int i) (.int i)
  | str (s : List Nat) (h : okS s = true) : Rep K ρ n H (.str s) (.str (sv s))
  | tup {xs : List Val} {a : Addr} {vs : List V} (h : H a = some (.tup vs) ∨ (SqT K H a vs ∧ keyTag xs = false)) (r : RepL K ρ n H xs vs) : Rep K ρ n H (.tup xs) (.ref a)
  | fro {xs : List Int} {a : Addr} (h : SqF K H a (xs.map V.int)) : Rep K ρ n H (.fro xs) (.ref a)
  | kt {xs : List Int} {a : Addr} (h : ∀ H' : Hp, SqT K H' a (xs.map V.int)) : Rep K ρ n H (.kt xs) (.ref a)
  | ref {k : Nat} (h : k < n) : Rep K ρ n H (.ref k) (.ref (ρ k))
inductive RepL (K : PySem.W.Frag) (ρ : Nat → Addr) (n : Nat) (H : Hp) : List Val → List V → Prop where
  | nil : RepL K ρ n H [] []
  | cons {x : Val} {u : V} {xs : List Val} {us : List V} (h : Rep K ρ n H x u) (t : RepL K ρ n H xs us) : RepL K ρ n H (x :: xs) (u :: us)
end

/-- a key of a dict -/
inductive KeyR : Val → Key → Prop where
  | int (i : Int) : KeyR (.int i) (.inl i)
  | str (s : List Nat) (h : okS s = true) : KeyR (.str s) (.inr (sv s))
inductive KeyRs : List Val → List Key → Prop where
  | nil : KeyRs [] []
  | cons {x : Val} {k : Key} {xs : List Val} {ks : List Key} (h : KeyR x k) (t : KeyRs xs ks) : KeyRs (x :: xs) (k :: ks)
inductive FldR (K : PySem.W.Frag) (ρ : Nat → Addr) (n : Nat) (H : Hp) : List (PySem.Str × Val) → List (PySem.Str × V) → Prop where
  | nil : FldR K ρ n H [] []
  | cons {f : PySem.Str} {x : Val} {u : V} {xs us} (h : Rep K ρ n H x u) (t : FldR K ρ n H xs us) : FldR K ρ n H ((f, x) :: xs) ((f, u) :: us)
inductive EntK (K : PySem.W.Frag) (ρ : Nat → Addr) (n : Nat) (H : Hp) : List (Val × Val) → List (Key × V) → Prop where
  | nil : EntK K ρ n H [] []
  | cons {x y : Val} {k : Key} {u : V} {xs us} (hk : KeyR x k) (h : Rep K ρ n H y u) (t : EntK K ρ n H xs us) : EntK K ρ n H ((x, y) :: xs) ((k, u) :: us)
inductive EntT (K : PySem.W.Frag) (ρ : Nat → Addr) (n : Nat) (H : Hp) : List (Val × Val) → List (List Key × V) → Prop where
  | nil : EntT K ρ n H [] []
  | cons {x : List Val} {y : Val} {k : List Key} {u : V} {xs us} (hk : KeyRs x k) (h : Rep K ρ n H y u) (t : EntT K ρ n H xs us) : EntT K ρ n H ((.tup x, y) :: xs) ((k, u) :: us)
inductive RepO (W : Wd) (ρ : Nat → Addr) (n : Nat) (H : Hp) : Ob → HO → Prop where
  | list {xs us} (h : RepL W.K ρ n H xs us) : RepO W ρ n H (.list xs) (.lst us)
  | inst {c dx fs us} (h : FldR W.K ρ n H fs us) (hc : Cls W.K (W.cad c)) (hn : ∀ f u, us.lookup f = some u → NoAttr W.K (W.cad c) f) : RepO W ρ n H (.inst c fs) (.ins (W.cad c) dx us)
  | dK {kvs us} (h : EntK W.K ρ n H kvs us) : RepO W ρ n H (.dict false kvs) (.dK us)
  | dT {kvs us} (h : EntT W.K ρ n H kvs us) : RepO W ρ n H (.dict true kvs) (.dT us)
  | fd {o kvs us} (h : EntT W.K ρ n H kvs us) : RepO W ρ n H (.fdict kvs) (.frz o (.dT us))

structure Ext (K : PySem.W.Frag) (ρ : Nat → Addr) (n : Nat) (H : Hp) (ρ' : Nat → Addr) (n' : Nat) (H' : Hp) : Prop where
  le : n ≤ n'
  agree : ∀ i, i < n → ρ' i = ρ i
  tups : ∀ a xs, SqT K H a xs → SqT K H' a xs
  tupt : ∀ a u, Stl u → H a = some u → H' a = some u
  frame : ∀ b o, H b = some o → (∀ i, i < n → ρ i ≠ b) → H' b = some o
  keep : ∀ b, H b ≠ none → H' b ≠ none
  fresh : ∀ i, n ≤ i → i < n' → H (ρ' i) = none
theorem Ext.refl {K : PySem.W.Frag} {ρ : Nat → Addr} {n : Nat} {H : Hp} : Ext K ρ n H ρ n H :=
  ⟨Nat.le_refl _, fun _ _ => rfl, fun _ _ h => h, fun _ _ _ h => h, fun _ _ h _ => h, fun _ h => h, fun i h1 h2 => absurd h2 (Nat.not_lt.mpr h1)⟩
theorem Ext.trans {K : PySem.W.Frag} {ρ ρ1 ρ2 : Nat → Addr} {n n1 n2 : Nat} {H H1 H2 : Hp} (a : Ext K ρ n H ρ1 n1 H1) (b : Ext K ρ1 n1 H1 ρ2 n2 H2) : Ext K ρ n H ρ2 n2 H2 where
  le := Nat.le_trans a.le b.le
  agree := fun i h => (b.agree i (Nat.lt_of_lt_of_le h a.le)).trans (a.agree i h)
  tups := fun x xs h => b.tups x xs (a.tups x xs h)
  tupt := fun x u k h => b.tupt x u k (a.tupt x u k h)
  frame := fun x o h hn => by
    refine b.frame x o (a.frame x o h hn) fun i hi => ?_
    by_cases q : i < n
    · rw [a.agree i q]; exact hn i q
    · intro e
      have := a.fresh i (Nat.le_of_not_lt q) hi
      rw [e, h] at this; cases this
  keep := fun x h => b.keep x (a.keep x h)
  fresh := fun i h1 h2 => by
    by_cases q : i < n1
    · rw [b.agree i q]; exact a.fresh i h1 q
    · have := b.fresh i (Nat.le_of_not_lt q) h2
      cases e : H (ρ2 i) with
      | none => rfl
      | some o => exact absurd this (a.keep _ (by rw [e]; simp))

/-- what a value's standing leans on -/
structure Tr (K : PySem.W.Frag) (ρ : Nat → Addr) (n : Nat) (H : Hp) (ρ' : Nat → Addr) (n' : Nat) (H' : Hp) : Prop where
  le : n ≤ n'
  agree : ∀ i, i < n → ρ' i = ρ i
  tups : ∀ a xs, SqT K H a xs → SqT K H' a xs
  tupt : ∀ a u, Stl0 u → H a = some u → H' a = some u
/-- .. and what is locked -/
structure TrW (K : PySem.W.Frag) (ρ : Nat → Addr) (n : Nat) (H : Hp) (ρ' : Nat → Addr) (n' : Nat) (H' : Hp) : Prop extends Tr K ρ n H ρ' n' H' where
  frz : ∀ a o u, H a = some (.frz o u) → H' a = some (.frz o u)
theorem Ext.tr {K : PySem.W.Frag} {ρ ρ' : Nat → Addr} {n n' : Nat} {H H' : Hp} (x : Ext K ρ n H ρ' n' H') : Tr K ρ n H ρ' n' H' := ⟨x.le, x.agree, x.tups, fun a u h e => x.tupt a u h.s e⟩
theorem Ext.trw {K : PySem.W.Frag} {ρ ρ' : Nat → Addr} {n n' : Nat} {H H' : Hp} (x : Ext K ρ n H ρ' n' H') : TrW K ρ n H ρ' n' H' := ⟨x.tr, fun a o u e => x.tupt a _ (.frz o u) e⟩
section
variable {K : PySem.W.Frag} {ρ ρ' : Nat → Addr} {n n' : Nat} {H H' : Hp}
mutual
theorem Rep.tr (x : Tr K ρ n H ρ' n' H') : ∀ {v : Val} {u : V}, Rep K ρ n H v u → Rep K ρ' n' H' v u
  | _, _, .none => .none
  | _, _, .bool b => .bool b
  | _, _, .int i => .int i
  | _, _, .str s h => .str s h
  | _, _, .tup h r => .tup (h.imp (x.tupt _ _ (.tup _)) fun z => ⟨x.tups _ _ z.1, z.2⟩) (RepL.tr x r)
  | _, _, .fro h => .fro (h.imp (fun ⟨o, e⟩ => ⟨o, x.tupt _ _ (.frz _ _) e⟩) id)
  | _, _, .kt h => .kt h
  | _, _, .ref h => by rw [← x.agree _ h]; exact .ref (Nat.lt_of_lt_of_le h x.le)
theorem RepL.tr (x : Tr K ρ n H ρ' n' H') : ∀ {v : List Val} {u : List V}, RepL K ρ n H v u → RepL K ρ' n' H' v u
  | _, _, .nil => .nil
  | _, _, .cons h t => .cons (Rep.tr x h) (RepL.tr x t)
end
theorem FldR.tr (x : Tr K ρ n H ρ' n' H') {v u} (h : FldR K ρ n H v u) : FldR K ρ' n' H' v u := by
  induction h with
  | nil => exact .nil
  | cons h t ih => exact .cons (h.tr x) ih
theorem EntK.tr (x : Tr K ρ n H ρ' n' H') {v u} (h : EntK K ρ n H v u) : EntK K ρ' n' H' v u := by
  induction h with
  | nil => exact .nil
  | cons k h t ih => exact .cons k (h.tr x) ih
theorem EntT.tr (x : Tr K ρ n H ρ' n' H') {v u} (h : EntT K ρ n H v u) : EntT K ρ' n' H' v u := by
  induction h with
  | nil => exact .nil
  | cons k h t ih => exact .cons k (h.tr x) ih
theorem RepO.tr {W : Wd} (x : Tr W.K ρ n H ρ' n' H') {v u} (h : RepO W ρ n H v u) : RepO W ρ' n' H' v u := by
  cases h with
  | list h => exact .list (h.tr x)
  | inst h a b => exact .inst (h.tr x) a b
  | dK h => exact .dK (h.tr x)
  | dT h => exact .dT (h.tr x)
  | fd h => exact .fd (h.tr x)
theorem Rep.ext (x : Ext K ρ n H ρ' n' H') {v u} (h : Rep K ρ n H v u) : Rep K ρ' n' H' v u := h.tr x.tr
theorem RepL.ext (x : Ext K ρ n H ρ' n' H') {v u} (h : RepL K ρ n H v u) : RepL K ρ' n' H' v u := h.tr x.tr
theorem FldR.ext (x : Ext K ρ n H ρ' n' H') {v u} (h : FldR K ρ n H v u) : FldR K ρ' n' H' v u := h.tr x.tr
theorem RepO.ext {W : Wd} (x : Ext W.K ρ n H ρ' n' H') {v u} (h : RepO W ρ n H v u) : RepO W ρ' n' H' v u := h.tr x.tr
theorem RepL.length : ∀ {v : List Val} {u : List V}, RepL K ρ n H v u → v.length = u.length
  | _, _, .nil => rfl
  | _, _, .cons _ t => congrArg Nat.succ (RepL.length t)
theorem RepL.get : ∀ {v : List Val} {u : List V} {i : Nat} {x : Val}, RepL K ρ n H v u → v[i]? = some x → ∃ y, u[i]? = some y ∧ Rep K ρ n H x y
  | _, _, _, _, .nil, h => by simp at h
  | _, _, 0, _, .cons h _, e => by simp at e; subst e; exact ⟨_, rfl, h⟩
  | _, _, i + 1, x, .cons _ t, e => by
    obtain ⟨y, h1, h2⟩ := RepL.get (i := i) t (by simpa using e)
    exact ⟨y, by simpa using h1, h2⟩
theorem RepL.append : ∀ {v w : List Val} {u z : List V}, RepL K ρ n H v u → RepL K ρ n H w z → RepL K ρ n H (v ++ w) (u ++ z)
  | _, _, _, _, .nil, s => s
  | _, _, _, _, .cons h t, s => .cons h (RepL.append t s)
theorem RepL.take : ∀ {v : List Val} {u : List V} (k : Nat), RepL K ρ n H v u → RepL K ρ n H (v.take k) (u.take k)
  | _, _, 0, _ => by simpa using .nil
  | _, _, _ + 1, .nil => by simpa using .nil
  | _, _, k + 1, .cons h t => .cons h (RepL.take k t)
theorem RepL.drop : ∀ {v : List Val} {u : List V} (k : Nat), RepL K ρ n H v u → RepL K ρ n H (v.drop k) (u.drop k)
  | _, _, 0, r => r
  | _, _, _ + 1, .nil => by simpa using .nil
  | _, _, k + 1, .cons _ t => RepL.drop k t
theorem RepL.rep {v : List Val} {u : List V} (h : RepL K ρ n H v u) : ∀ k : Nat, RepL K ρ n H (List.replicate k v).flatten (List.replicate k u).flatten
  | 0 => by simpa using .nil
  | k + 1 => by
    rw [List.replicate_succ, List.replicate_succ, List.flatten_cons, List.flatten_cons]
    exact h.append (RepL.rep h k)
theorem RepL.reverse : ∀ {v : List Val} {u : List V}, RepL K ρ n H v u → RepL K ρ n H v.reverse u.reverse
  | _, _, .nil => by simpa using .nil
  | _, _, .cons h t => by
    rw [List.reverse_cons, List.reverse_cons]
    exact (RepL.reverse t).append (.cons h .nil)
theorem RepL.dropLast {v : List Val} {u : List V} (h : RepL K ρ n H v u) : RepL K ρ n H v.dropLast u.dropLast := by
  rw [List.dropLast_eq_take, List.dropLast_eq_take, h.length]
  exact h.take _
theorem RepL.set : ∀ {v : List Val} {u : List V} {x : Val} {y : V} (k : Nat), RepL K ρ n H v u → Rep K ρ n H x y → RepL K ρ n H (v.set k x) (u.set k y)
  | _, _, _, _, _, .nil, _ => .nil
  | _, _, _, _, 0, .cons _ t, r => .cons r t
  | _, _, _, _, k + 1, .cons h t, r => .cons h (RepL.set k t r)
end

theorem sqT_of {K : PySem.W.Frag} {H : Hp} {a : Addr} {vs : List V} {b : Prop} (h : H a = some (.tup vs) ∨ (SqT K H a vs ∧ b)) : SqT K H a vs := h.elim SqT.of fun z => z.1
structure Sim (W : Wd) (ρ : Nat → Addr) (m : Mem) (H : Hp) : Prop where
  inj : ∀ i j, i < m.length → j < m.length → ρ i = ρ j → i = j
  obj : ∀ i o, m[i]? = some o → ∃ u, H (ρ i) = some u ∧ RepO W ρ m.length H o u

structure SimS (K : PySem.W.Frag) (ρ : Nat → Addr) (n : Nat) (H : Hp) (l : Loc) (σ : L2.St) : Prop where
  len : l.length = σ.length
  get : ∀ (i : Nat) (v : Val), l[i]? = some (some v) → ∃ u, σ[i]? = some (some u) ∧ Rep K ρ n H v u
theorem SimS.ext {K : PySem.W.Frag} {ρ ρ' : Nat → Addr} {n n' : Nat} {H H' : Hp} {l : Loc} {σ : L2.St} (s : SimS K ρ n H l σ) (x : Ext K ρ n H ρ' n' H') : SimS K ρ' n' H' l σ :=
  ⟨s.len, fun i v h => let ⟨u, a, b⟩ := s.get i v h; ⟨u, a, b.ext x⟩⟩
theorem SimS.tr {K : PySem.W.Frag} {ρ ρ' : Nat → Addr} {n n' : Nat} {H H' : Hp} {l : Loc} {σ : L2.St} (s : SimS K ρ n H l σ) (x : Tr K ρ n H ρ' n' H') : SimS K ρ' n' H' l σ :=
  ⟨s.len, fun i v h => let ⟨u, a, b⟩ := s.get i v h; ⟨u, a, b.tr x⟩⟩
theorem SimS.set {K : PySem.W.Frag} {ρ : Nat → Addr} {n : Nat} {H : Hp} {l : Loc} {σ : L2.St} (s : SimS K ρ n H l σ) {v : Val} {u : V} (r : Rep K ρ n H v u) (i : Nat) : SimS K ρ n H (l.set i (some v)) (σ.set i (some u)) := by
  refine ⟨by simp [s.len], fun j w h => ?_⟩
  by_cases e : i = j
  · subst e
    by_cases hl : i < l.length
    · rw [List.getElem?_set_self hl] at h
      cases h
      exact ⟨u, List.getElem?_set_self (by rw [← s.len]; exact hl), r⟩
    · rw [List.getElem?_eq_none (by simpa using hl)] at h; cases h
  · rw [List.getElem?_set_ne e] at h
    obtain ⟨y, a, b⟩ := s.get j w h
    exact ⟨y, by rw [List.getElem?_set_ne e]; exact a, b⟩

theorem RepL.ints {K : PySem.W.Frag} {ρ : Nat → Addr} {n : Nat} {H : Hp} : ∀ xs : List Int, RepL K ρ n H (xs.map Val.int) (xs.map V.int)
  | [] => .nil
  | x :: xs => .cons (.int x) (RepL.ints xs)
/-! a new cell -/
section
variable {W : Wd} {ρ : Nat → Addr} {m : Mem} {H : Hp}
theorem ext_new {K : PySem.W.Frag} {n : Nat} {p : Addr} {o : HO} (hp : H p = none) : Ext K ρ n H (fun i => if i = n then p else ρ i) (n + 1) (upd H p o) where
  le := Nat.le_succ _
  agree := fun i h => if_neg (Nat.ne_of_lt h)
  tups := fun a xs h => by
    rcases h with (h | ⟨ob, h⟩) | h
    · exact .inl (.inl (by rw [upd_ne (ne_of_none h hp)]; exact h))
    · exact .inl (.inr ⟨ob, by rw [upd_ne (ne_of_none h hp)]; exact h⟩)
    · exact .inr h
  tupt := fun a u k h => by rw [upd_ne (ne_of_none h hp)]; exact h
  frame := fun b o h _ => by rw [upd_ne (ne_of_none h hp)]; exact h
  keep := fun b h => by
    by_cases e : b = p
    · subst e; exact absurd hp h
    · rw [upd_ne e]; exact h
  fresh := fun i h1 h2 => by
    have e : i = n := by omega
    subst e
    show H (if i = i then p else ρ i) = none
    rw [if_pos rfl]; exact hp
/-- a tuple, or any other thing that the memory does not name, is laid -/
theorem ext_laid {K : PySem.W.Frag} {n : Nat} {p : Addr} {o : HO} (hp : H p = none) : Ext K ρ n H ρ n (upd H p o) where
  le := Nat.le_refl _
  agree := fun _ _ => rfl
  tups := (ext_new (K := K) (ρ := ρ) (n := n) (o := o) hp).tups
  tupt := (ext_new (K := K) (ρ := ρ) (n := n) (o := o) hp).tupt
  frame := fun b o h _ => by rw [upd_ne (ne_of_none h hp)]; exact h
  keep := (ext_new (K := K) (ρ := ρ) (n := n) (o := o) hp).keep
  fresh := fun i h1 h2 => absurd h2 (Nat.not_lt.mpr h1)
theorem Sim.laid {p : Addr} {o : HO} (s : Sim W ρ m H) (hp : H p = none) : Sim W ρ m (upd H p o) :=
  ⟨s.inj, fun i ob h => let ⟨u, a, b⟩ := s.obj i ob h; ⟨u, by rw [upd_ne (ne_of_none a hp)]; exact a, b.ext (ext_laid hp)⟩⟩
theorem Sim.new {p : Addr} {o : HO} {ob : Ob} (s : Sim W ρ m H) (hp : H p = none) (r : RepO W ρ m.length H ob o) : Sim W (fun i => if i = m.length then p else ρ i) (m ++ [ob]) (upd H p o) := by
  have x := ext_new (K := W.K) (ρ := ρ) (n := m.length) (o := o) hp
  refine ⟨fun i j hi hj e => ?_, fun i ob' h => ?_⟩
  · simp only [List.length_append, List.length_cons, List.length_nil] at hi hj
    have at_ : ∀ k, k < m.length → H (ρ k) ≠ none := fun k hk => by
      obtain ⟨u, a, _⟩ := s.obj k m[k] (by simp [hk])
      rw [a]; simp
    by_cases h1 : i = m.length
    · by_cases h2 : j = m.length
      · omega
      · exfalso
        have e' : p = ρ j := by simpa [h1, h2] using e
        exact at_ j (by omega) (by rw [← e']; exact hp)
    · by_cases h2 : j = m.length
      · exfalso
        have e' : ρ i = p := by simpa [h1, h2] using e
        exact at_ i (by omega) (by rw [e']; exact hp)
      · have e' : ρ i = ρ j := by simpa [h1, h2] using e
        exact s.inj i j (by omega) (by omega) e'
  · have hl : (m ++ [ob]).length = m.length + 1 := by simp
    rw [hl]
    by_cases h1 : i < m.length
    · rw [List.getElem?_append_left h1] at h
      obtain ⟨u, a, b⟩ := s.obj i ob' h
      refine ⟨u, ?_, b.ext x⟩
      have e1 : (if i = m.length then p else ρ i) = ρ i := if_neg (Nat.ne_of_lt h1)
      rw [e1, upd_ne (ne_of_none a hp)]; exact a
    · have h2 : i = m.length := by
        have := (List.getElem?_eq_some_iff.mp h).1
        simp at this; omega
      subst h2
      simp at h
      subst h
      exact ⟨o, by simp [upd_same], r.ext x⟩
/-- a cell is changed -/
theorem ext_put {k : Nat} {o o' : HO} (s : Sim W ρ m H) (hk : k < m.length) (ho : H (ρ k) = some o) (hf : ∀ kvs, m[k]? ≠ some (.fdict kvs)) : Ext W.K ρ m.length H ρ m.length (upd H (ρ k) o') where
  le := Nat.le_refl _
  agree := fun _ _ => rfl
  tups := fun a xs h => by
    obtain ⟨ob0, hob⟩ : ∃ ob, m[k]? = some ob := ⟨m[k], by simp [hk]⟩
    obtain ⟨u, hu, r⟩ := s.obj k ob0 hob
    rcases h with (h | ⟨ob, h⟩) | h
    · refine .inl (.inl ?_)
      rw [upd_ne (fun e => by rw [e, hu] at h; cases h; cases r)]; exact h
    · refine .inl (.inr ⟨ob, ?_⟩)
      rw [upd_ne (fun e => by rw [e, hu] at h; cases h; cases r)]; exact h
    · exact .inr h
  tupt := fun a w z h => by
    obtain ⟨ob0, hob⟩ : ∃ ob, m[k]? = some ob := ⟨m[k], by simp [hk]⟩
    obtain ⟨u, hu, r⟩ := s.obj k ob0 hob
    rw [upd_ne (fun e => by rw [e, hu] at h; cases h; cases r with
      | fd _ => exact hf _ hob
      | _ => cases z)]; exact h
  frame := fun b o h hn => by rw [upd_ne (fun e => hn k hk e.symm)]; exact h
  keep := fun b h => by
    by_cases e : b = ρ k
    · subst e; rw [upd_same]; simp
    · rw [upd_ne e]; exact h
  fresh := fun i h1 h2 => absurd h2 (Nat.not_lt.mpr h1)
theorem Sim.put {k : Nat} {o' : HO} {ob' : Ob} (s : Sim W ρ m H) (hk : k < m.length) (hf : ∀ kvs, m[k]? ≠ some (.fdict kvs)) (r : RepO W ρ m.length H ob' o') : Sim W ρ (m.set k ob') (upd H (ρ k) o') := by
  obtain ⟨u, hu, _⟩ := s.obj k m[k] (by simp [hk])
  have x := ext_put (o' := o') s hk hu hf
  refine ⟨fun i j hi hj e => s.inj i j (by simpa using hi) (by simpa using hj) e, fun i ob h => ?_⟩
  rw [List.length_set]
  by_cases e : k = i
  · subst e
    rw [List.getElem?_set_self hk] at h
    cases h
    exact ⟨o', upd_same, r.ext x⟩
  · rw [List.getElem?_set_ne e] at h
    obtain ⟨v, a, b⟩ := s.obj i ob h
    have hi : i < m.length := (List.getElem?_eq_some_iff.mp h).1
    exact ⟨v, by rw [upd_ne (fun q => e (s.inj k i hk hi q.symm))]; exact a, b.ext x⟩
theorem Sim.list {k : Nat} {xs : List Val} (s : Sim W ρ m H) (h : m.list k = some xs) : k < m.length ∧ m[k]? = some (.list xs) ∧ ∃ us, H (ρ k) = some (.lst us) ∧ RepL W.K ρ m.length H xs us := by
  unfold Mem.list at h
  cases e : m[k]? with
  | none => rw [e] at h; cases h
  | some o =>
    rw [e] at h
    cases o with
    | list ys =>
      cases h
      obtain ⟨u, a, r⟩ := s.obj k _ e
      cases r with
      | list r => exact ⟨(List.getElem?_eq_some_iff.mp e).1, rfl, _, a, r⟩
    | dict _ _ => cases h
    | fdict _ => cases h
    | inst _ _ => cases h
theorem Sim.seq {v : Val} {u : V} {xs : List Val} (s : Sim W ρ m H) (r : Rep W.K ρ m.length H v u) (h : m.seq v = some xs) : ∃ a us, u = .ref a ∧ (SqL W.K H a us ∨ SqT W.K H a us) ∧ RepL W.K ρ m.length H xs us := by
  cases r with
  | tup ht rl => cases h; exact ⟨_, _, rfl, .inr (sqT_of ht), rl⟩
  | fro hf => cases h; exact ⟨_, _, rfl, .inl hf.l, RepL.ints _⟩
  | kt _ => cases h
  | ref hk =>
    obtain ⟨_, _, us, a, rl⟩ := s.list h
    exact ⟨_, us, rfl, .inl (SqL.of a), rl⟩
  | none => cases h
  | bool _ => cases h
  | int _ => cases h
  | str _ _ => cases h
end

/-! ### what is wanted behind a run -/
def RepX (W : Wd) (ρ : Nat → Addr) (n : Nat) (H : Hp) (c : PySem.Str) (fs : List (PySem.Str × Val)) (cls : Value) (d : Option Addr) : Prop :=
  cls = .ref (W.cad c) ∧ ∃ dx us, d = some dx ∧ H dx = some (.xd us) ∧ FldR W.K ρ n H fs us
def Post (W : Wd) (wx : WX) (σ : L2.St) (ρ : Nat → Addr) (n : Nat) (H : Hp) (r : Res Val) (Q : VK) : Prop := match r with
  | .ok v m => ∀ ρ' H' u, Ext W.K ρ n H ρ' m.length H' → Sim W ρ' m H' → Rep W.K ρ' m.length H' v u → Q u H'
  | .exc c fs m => ∀ ρ' H' cls d, Ext W.K ρ n H ρ' m.length H' → Sim W ρ' m H' → RepX W ρ' m.length H' c fs cls d → wx cls d σ H'
  | .err => False
def PostL (W : Wd) (wx : WX) (σ : L2.St) (ρ : Nat → Addr) (n : Nat) (H : Hp) (r : Res (List Val)) (Q : List V → Hp → Prop) : Prop := match r with
  | .ok v m => ∀ ρ' H' u, Ext W.K ρ n H ρ' m.length H' → Sim W ρ' m H' → RepL W.K ρ' m.length H' v u → Q u H'
  | .exc c fs m => ∀ ρ' H' cls d, Ext W.K ρ n H ρ' m.length H' → Sim W ρ' m H' → RepX W ρ' m.length H' c fs cls d → wx cls d σ H'
  | .err => False
def PostT (W : Wd) (wx : WX) (σ : L2.St) (ρ : Nat → Addr) (n : Nat) (H : Hp) (r : Res Val) (Q : Bool → Hp → Prop) : Prop := match r with
  | .ok v m => ∃ b, truth m v = some b ∧ ∀ ρ' H', Ext W.K ρ n H ρ' m.length H' → Sim W ρ' m H' → Q b H'
  | .exc c fs m => ∀ ρ' H' cls d, Ext W.K ρ n H ρ' m.length H' → Sim W ρ' m H' → RepX W ρ' m.length H' c fs cls d → wx cls d σ H'
  | .err => False
/-- the same, no exception -/
def PV (W : Wd) (ρ : Nat → Addr) (n : Nat) (H : Hp) (r : Res Val) (Q : VK) : Prop := match r with
  | .ok v m => ∀ ρ' H' u, Ext W.K ρ n H ρ' m.length H' → Sim W ρ' m H' → Rep W.K ρ' m.length H' v u → Q u H'
  | _ => False

section
variable {W : Wd} {wx : WX} {σ : L2.St} {ρ ρ1 : Nat → Addr} {n n1 : Nat} {H H1 : Hp}
theorem Post.mono {r : Res Val} {Q Q' : VK} (p : Post W wx σ ρ n H r Q) (h : ∀ u H', Q u H' → Q' u H') : Post W wx σ ρ n H r Q' := by
  cases r with
  | ok v m => exact fun ρ' H' u a b c => h _ _ (p ρ' H' u a b c)
  | exc c fs m => exact p
  | err => exact p
theorem PostL.mono {r : Res (List Val)} {Q Q' : List V → Hp → Prop} (p : PostL W wx σ ρ n H r Q) (h : ∀ u H', Q u H' → Q' u H') : PostL W wx σ ρ n H r Q' := by
  cases r with
  | ok v m => exact fun ρ' H' u a b c => h _ _ (p ρ' H' u a b c)
  | exc c fs m => exact p
  | err => exact p
theorem PostT.mono {r : Res Val} {Q Q' : Bool → Hp → Prop} (p : PostT W wx σ ρ n H r Q) (h : ∀ u H', Q u H' → Q' u H') : PostT W wx σ ρ n H r Q' := by
  cases r with
  | ok v m => exact let ⟨b, e, k⟩ := p; ⟨b, e, fun ρ' H' a c => h _ _ (k ρ' H' a c)⟩
  | exc c fs m => exact p
  | err => exact p
theorem Post.ext {r : Res Val} {Q : VK} (p : Post W wx σ ρ n H r Q) (x : Ext W.K ρ n H ρ1 n1 H1) : Post W wx σ ρ1 n1 H1 r Q := by
  cases r with
  | ok v m => exact fun ρ' H' u a b c => p ρ' H' u (x.trans a) b c
  | exc c fs m => exact fun ρ' H' u d a b c => p ρ' H' u d (x.trans a) b c
  | err => exact p
theorem PostL.ext {r : Res (List Val)} {Q : List V → Hp → Prop} (p : PostL W wx σ ρ n H r Q) (x : Ext W.K ρ n H ρ1 n1 H1) : PostL W wx σ ρ1 n1 H1 r Q := by
  cases r with
  | ok v m => exact fun ρ' H' u a b c => p ρ' H' u (x.trans a) b c
  | exc c fs m => exact fun ρ' H' u d a b c => p ρ' H' u d (x.trans a) b c
  | err => exact p
theorem PostT.ext {r : Res Val} {Q : Bool → Hp → Prop} (p : PostT W wx σ ρ n H r Q) (x : Ext W.K ρ n H ρ1 n1 H1) : PostT W wx σ ρ1 n1 H1 r Q := by
  cases r with
  | ok v m => exact let ⟨b, e, k⟩ := p; ⟨b, e, fun ρ' H' a c => k ρ' H' (x.trans a) c⟩
  | exc c fs m => exact fun ρ' H' u d a b c => p ρ' H' u d (x.trans a) b c
  | err => exact p

/-- behind a part that gave v: the state, and what is left -/
structure Aft (W : Wd) (σ : L2.St) (ρ : Nat → Addr) (n : Nat) (H : Hp) (l : Loc) (v : Val) (m1 : Mem) (ρ1 : Nat → Addr) (u : V) (H1 : Hp) : Prop where
  ext : Ext W.K ρ n H ρ1 m1.length H1
  ss : SimS W.K ρ1 m1.length H1 l σ
  sim : Sim W ρ1 m1 H1
  rep : Rep W.K ρ1 m1.length H1 v u
theorem Post.bind {l : Loc} {r : Res Val} {f : Val → Mem → Res Val} {Q : VK} (ss : SimS W.K ρ n H l σ) (p : Post W wx σ ρ n H (r.bind f) Q) :
    Post W wx σ ρ n H r fun u H1 => ∃ v m1 ρ1, Aft W σ ρ n H l v m1 ρ1 u H1 ∧ Post W wx σ ρ1 m1.length H1 (f v m1) Q := by
  cases r with
  | ok v m => exact fun ρ' H' u a b c => ⟨v, m, ρ', ⟨a, ss.ext a, b, c⟩, Post.ext p a⟩
  | exc c fs m => exact p
  | err => exact p
theorem Post.bindL {l : Loc} {r : Res Val} {f : Val → Mem → Res (List Val)} {Q : List V → Hp → Prop} (ss : SimS W.K ρ n H l σ) (p : PostL W wx σ ρ n H (r.bind f) Q) :
    Post W wx σ ρ n H r fun u H1 => ∃ v m1 ρ1, Aft W σ ρ n H l v m1 ρ1 u H1 ∧ PostL W wx σ ρ1 m1.length H1 (f v m1) Q := by
  cases r with
  | ok v m => exact fun ρ' H' u a b c => ⟨v, m, ρ', ⟨a, ss.ext a, b, c⟩, PostL.ext p a⟩
  | exc c fs m => exact p
  | err => exact p
theorem Post.bindT {l : Loc} {r : Res Val} {f : Val → Mem → Res Val} {Q : Bool → Hp → Prop} (ss : SimS W.K ρ n H l σ) (p : PostT W wx σ ρ n H (r.bind f) Q) :
    Post W wx σ ρ n H r fun u H1 => ∃ v m1 ρ1, Aft W σ ρ n H l v m1 ρ1 u H1 ∧ PostT W wx σ ρ1 m1.length H1 (f v m1) Q := by
  cases r with
  | ok v m => exact fun ρ' H' u a b c => ⟨v, m, ρ', ⟨a, ss.ext a, b, c⟩, PostT.ext p a⟩
  | exc c fs m => exact p
  | err => exact p
structure AftL (W : Wd) (σ : L2.St) (ρ : Nat → Addr) (n : Nat) (H : Hp) (l : Loc) (v : List Val) (m1 : Mem) (ρ1 : Nat → Addr) (u : List V) (H1 : Hp) : Prop where
  ext : Ext W.K ρ n H ρ1 m1.length H1
  ss : SimS W.K ρ1 m1.length H1 l σ
  sim : Sim W ρ1 m1 H1
  rep : RepL W.K ρ1 m1.length H1 v u
theorem PostL.bind {l : Loc} {r : Res (List Val)} {f : List Val → Mem → Res Val} {Q : VK} (ss : SimS W.K ρ n H l σ) (p : Post W wx σ ρ n H (r.bind f) Q) :
    PostL W wx σ ρ n H r fun u H1 => ∃ v m1 ρ1, AftL W σ ρ n H l v m1 ρ1 u H1 ∧ Post W wx σ ρ1 m1.length H1 (f v m1) Q := by
  cases r with
  | ok v m => exact fun ρ' H' u a b c => ⟨v, m, ρ', ⟨a, ss.ext a, b, c⟩, Post.ext p a⟩
  | exc c fs m => exact p
  | err => exact p
theorem PostL.bindL {l : Loc} {r : Res (List Val)} {f : List Val → Mem → Res (List Val)} {Q : List V → Hp → Prop} (ss : SimS W.K ρ n H l σ) (p : PostL W wx σ ρ n H (r.bind f) Q) :
    PostL W wx σ ρ n H r fun u H1 => ∃ v m1 ρ1, AftL W σ ρ n H l v m1 ρ1 u H1 ∧ PostL W wx σ ρ1 m1.length H1 (f v m1) Q := by
  cases r with
  | ok v m => exact fun ρ' H' u a b c => ⟨v, m, ρ', ⟨a, ss.ext a, b, c⟩, PostL.ext p a⟩
  | exc c fs m => exact p
  | err => exact p
theorem Post.pv {v : Val} {m : Mem} {Q : VK} (p : PV W ρ n H (.ok v m) Q) : Post W wx σ ρ n H (.ok v m) Q := p
end

/-! ### expressions, tests, lists of expressions -/
structure SE (X : Cx) (W : Wd) (wx : WX) (e : Expr) (f : Loc → Mem → Res Val) : Prop where
  ex : ∃ t : TE, PE X e t ∧ ∀ (σ : L2.St) (H : Hp) (ρ : Nat → Addr) (l : Loc) (m : Mem) (Q : VK), SimS W.K ρ m.length H l σ → Sim W ρ m H → Post W wx σ ρ m.length H (f l m) Q → t σ H Q
structure ST (X : Cx) (W : Wd) (wx : WX) (e : Expr) (f : Loc → Mem → Res Val) : Prop where
  ex : ∃ t : TT, PT X e t ∧ ∀ (σ : L2.St) (H : Hp) (ρ : Nat → Addr) (l : Loc) (m : Mem) (Q : Bool → Hp → Prop), SimS W.K ρ m.length H l σ → Sim W ρ m H → PostT W wx σ ρ m.length H (f l m) Q → t σ H Q
structure SA (X : Cx) (W : Wd) (wx : WX) (es : List Expr) (f : Loc → Mem → Res (List Val)) : Prop where
  ex : ∃ t : TA, PA X es t ∧ ∀ (σ : L2.St) (H : Hp) (ρ : Nat → Addr) (l : Loc) (m : Mem) (Q : List V → Hp → Prop), SimS W.K ρ m.length H l σ → Sim W ρ m H → PostL W wx σ ρ m.length H (f l m) Q → t σ H Q

end Py

namespace Py
open PySem PySem.Spec PyProof.Rows L2

def opOf : BOp → Operator
  | .add => .Add | .sub => .Sub | .mul => .Mult | .fdiv => .FloorDiv | .mod => .Mod | .pow => .Pow
def copOf : COp → CmpOp
  | .eq => .Eq | .ne => .NotEq | .lt => .Lt | .le => .LtE | .gt => .Gt | .ge => .GtE | .isn => .Is | .notn => .IsNot | .mem => .In | .nmem => .NotIn

theorem sz_line : SZ = sizeLine := by rw [sizeLine_eq]; rfl

section
variable {X : Cx} {W : Wd} {ρ : Nat → Addr} {m : Mem} {H : Hp}
theorem Sim.one {Q : VK} {v : Val} {u : V} (s : Sim W ρ m H) (p : PV W ρ m.length H (.ok v m) Q) (r : Rep W.K ρ m.length H v u) : Q u H := p ρ H u Ext.refl s r
/-- a new list is laid -/
theorem Sim.lst {Q : VK} {xs : List Val} {us : List V} (s : Sim W ρ m H) (p : PV W ρ m.length H (.ok (.ref m.length) (m ++ [.list xs])) Q) (r : RepL W.K ρ m.length H xs us) : ∀ a, H a = none → Q (.ref a) (upd H a (.lst us)) := fun a ha => by
  have hl : (m ++ [Ob.list xs]).length = m.length + 1 := by simp
  refine p (fun i => if i = m.length then a else ρ i) _ _ (by rw [hl]; exact ext_new ha) (s.new ha (.list r)) ?_
  have h := Rep.ref (K := W.K) (ρ := fun i => if i = m.length then a else ρ i) (n := (m ++ [Ob.list xs]).length) (H := upd H a (.lst us)) (k := m.length) (by rw [hl]; exact Nat.lt_succ_self _)
  simp only [if_true] at h
  exact h
/-- a new tuple is laid -/
theorem Sim.tupn {Q : VK} {xs : List Val} {us : List V} (s : Sim W ρ m H) (p : PV W ρ m.length H (.ok (.tup xs) m) Q) (r : RepL W.K ρ m.length H xs us) : ∀ a, H a = none → Q (.ref a) (upd H a (.tup us)) := fun a ha =>
  p ρ _ _ (ext_laid ha) (s.laid ha) (.tup (.inl upd_same) (r.ext (ext_laid ha)))
/-- a cell is changed, a value comes -/
theorem nfd {m : Mem} {k : Nat} {xs : List Val} (h : m[k]? = some (.list xs)) : ∀ kvs, m[k]? ≠ some (.fdict kvs) := fun kvs z => by rw [h] at z; cases z
theorem Sim.putv {Q : VK} {k : Nat} {o' : HO} {ob' : Ob} {v : Val} {u : V} (s : Sim W ρ m H) (hk : k < m.length) (hf : ∀ kvs, m[k]? ≠ some (.fdict kvs)) (p : PV W ρ m.length H (.ok v (m.set k ob')) Q) (r : RepO W ρ m.length H ob' o') (rv : Rep W.K ρ m.length H v u) : Q u (upd H (ρ k) o') := by
  obtain ⟨ob, hob⟩ : ∃ ob, m[k]? = some ob := ⟨m[k], by simp [hk]⟩
  obtain ⟨w, hw, _⟩ := s.obj k ob hob
  have x := ext_put (o' := o') s hk hw hf
  have hl : (m.set k ob').length = m.length := by simp
  exact p ρ _ u (by rw [hl]; exact x) (s.put hk hf r) (by rw [hl]; exact rv.ext x)

/-! ### a + b and its like -/
def rBin (W : Wd) (o : BOp) : R2 := fun u w H Q => ∃ ρ m x y, Sim W ρ m H ∧ Rep W.K ρ m.length H x u ∧ Rep W.K ρ m.length H y w ∧ PV W ρ m.length H (binop o x y m) Q
theorem binI {f : Value → Value → Sem Value} {r : R2} {W : Wd} {o : BOp} (h : OpR X f r) (k : ∀ u w H Q, rBin W o u w H Q → r u w H Q) : OpR X f (rBin W o) := fun pins s σ H x y v u Q I rx ry q => h pins s σ H x y v u Q I rx ry (k _ _ _ _ q)
theorem big64_eq : big64 = 2 ^ 64 := by decide
theorem op_bin (hW : W.K = X.K) (o : BOp) : OpR X (binaryOp (opOf o)) (rBin W o) := by
  cases o with
  | add =>
    refine binI (o := .add) (op_add.or (op_add_ib.or (op_add_str.or (op_catA.or op_cat)))) fun u w H Q h => ?_
    obtain ⟨ρ, m, x, y, s, rx, ry, p⟩ := h
    cases rx with
    | int i =>
      cases ry with
      | int j => exact .inl ⟨i, j, rfl, rfl, s.one p (.int _)⟩
      | bool b => exact .inr (.inl ⟨i, b, rfl, rfl, by have := s.one p (.int _); simpa [b2i, PyProof.Rows.b2i] using this⟩)
      | _ => exact (show False from p).elim
    | str a ha =>
      cases ry with
      | str b hb =>
        simp only [binop] at p
        split at p
        · rename_i h
          refine .inr (.inr (.inl ⟨_, _, rfl, rfl, by rw [sv_len, sv_len, ← sz_line]; exact h, ?_⟩))
          rw [sv_app]; exact s.one p (.str _ (okS_app ha hb))
        · exact (show False from p).elim
      | _ => exact (show False from p).elim
    | @tup xs a vs ha ra =>
      cases ry with
      | @tup ys b ws hb rb =>
        simp only [binop] at p
        split at p
        · rename_i h
          have ha' := sqT_of ha
          have hb' := sqT_of hb
          rw [hW] at ha' hb'
          refine .inr (.inr (.inr (.inl ⟨a, b, vs, ws, rfl, rfl, ha', hb', by rw [← ra.length, ← rb.length, ← sz_line]; exact h, fun e => ?_, fun _ e => ?_, fun _ _ => s.tupn p (ra.append rb)⟩)))
          · subst e
            cases ra
            exact s.one p (.tup hb rb)
          · subst e
            cases rb
            rw [List.append_nil] at p
            exact s.one p (.tup ha ra)
        · exact (show False from p).elim
      | _ => exact (show False from p).elim
    | @ref k hk =>
      cases ry with
      | @ref j hj =>
        simp only [binop] at p
        split at p
        · rename_i xs ys e1 e2
          split at p
          · rename_i h
            obtain ⟨_, _, us, h1, r1⟩ := s.list e1
            obtain ⟨_, _, ws, h2, r2⟩ := s.list e2
            exact .inr (.inr (.inr (.inr ⟨_, _, us, ws, rfl, rfl, h1, h2, by rw [← r1.length, ← r2.length, ← sz_line]; exact h, s.lst p (r1.append r2)⟩)))
          · exact (show False from p).elim
        · exact (show False from p).elim
      | _ => exact (show False from p).elim
    | _ => cases ry <;> exact (show False from p).elim
  | sub =>
    refine binI (o := .sub) op_sub fun u w H Q h => ?_
    obtain ⟨ρ, m, x, y, s, rx, ry, p⟩ := h
    cases rx with
    | int i =>
      cases ry with
      | int j => exact ⟨i, j, rfl, rfl, s.one p (.int _)⟩
      | _ => exact (show False from p).elim
    | _ => cases ry <;> exact (show False from p).elim
  | mul =>
    refine binI (o := .mul) (op_mul.or op_rep) fun u w H Q h => ?_
    obtain ⟨ρ, m, x, y, s, rx, ry, p⟩ := h
    cases rx with
    | int i =>
      cases ry with
      | int j =>
        simp only [binop] at p
        split at p
        · rename_i h
          exact .inl ⟨i, j, rfl, rfl, by unfold mulOk at h; rw [big64_eq] at h; exact h, s.one p (.int _)⟩
        · exact (show False from p).elim
      | _ => exact (show False from p).elim
    | @ref k hk =>
      cases ry with
      | int j =>
        simp only [binop] at p
        split at p
        · rename_i xs e1
          split at p
          · rename_i h
            obtain ⟨_, _, us, h1, r1⟩ := s.list e1
            refine .inr ⟨_, j, us, rfl, rfl, h1, ?_, ?_, by rw [← r1.length, ← sz_line]; exact h.2, s.lst p (r1.rep _)⟩
            · have := h.1.1; omega
            · have := h.1.2; omega
          · exact (show False from p).elim
        · exact (show False from p).elim
      | _ => exact (show False from p).elim
    | _ => cases ry <;> exact (show False from p).elim
  | fdiv =>
    refine binI (o := .fdiv) op_fdivN fun u w H Q h => ?_
    obtain ⟨ρ, m, x, y, s, rx, ry, p⟩ := h
    cases rx with
    | int i =>
      cases ry with
      | int j =>
        simp only [binop] at p
        split at p
        · rename_i h
          exact ⟨i, j, rfl, rfl, h, s.one p (.int _)⟩
        · exact (show False from p).elim
      | _ => exact (show False from p).elim
    | _ => cases ry <;> exact (show False from p).elim
  | mod =>
    refine binI (o := .mod) op_mod fun u w H Q h => ?_
    obtain ⟨ρ, m, x, y, s, rx, ry, p⟩ := h
    cases rx with
    | int i =>
      cases ry with
      | int j =>
        simp only [binop] at p
        split at p
        · rename_i h
          exact ⟨i, j, rfl, rfl, h, s.one p (.int _)⟩
        · exact (show False from p).elim
      | _ => exact (show False from p).elim
    | _ => cases ry <;> exact (show False from p).elim
  | pow =>
    refine binI (o := .pow) op_pow fun u w H Q h => ?_
    obtain ⟨ρ, m, x, y, s, rx, ry, p⟩ := h
    cases rx with
    | int i =>
      cases ry with
      | int j =>
        simp only [binop] at p
        split at p
        · rename_i h
          exact ⟨i, j, rfl, rfl, ⟨h.1, h.2.1, h.2.2⟩, s.one p (.int _)⟩
        · exact (show False from p).elim
      | _ => exact (show False from p).elim
    | _ => cases ry <;> exact (show False from p).elim

/-! ### data that is compared -/
mutual
def toD : Val → PyData
  | .none => .none
  | .bool b => .bool b
  | .int i => .int i
  | .str s => .str (sv s)
  | .tup xs => .tuple (toDs xs)
  | .fro _ => .none
  | .kt _ => .none
  | .ref _ => .none
def toDs : List Val → List PyData
  | [] => []
  | x :: xs => toD x :: toDs xs
end
mutual
theorem dp_of {K : PySem.W.Frag} {ρ : Nat → Addr} {n : Nat} {H : Hp} : ∀ {v : Val} {u : V}, Rep K ρ n H v u → v.pl = true → Dp K H u (toD v)
  | _, _, .none, _ => by unfold toD; exact .non
  | _, _, .bool b, _ => by unfold toD; exact .bl b
  | _, _, .int i, _ => by unfold toD; exact .int i
  | _, _, .str s _, _ => by unfold toD; exact .str _
  | _, _, .tup h r, e => by unfold toD; exact .tup (sqT_of h) (dps_of r (by unfold Val.pl at e; exact e))
  | _, _, .fro h, e => by simp [Val.pl] at e
  | _, _, .kt h, e => by simp [Val.pl] at e
  | _, _, .ref h, e => by simp [Val.pl] at e
theorem dps_of {K : PySem.W.Frag} {ρ : Nat → Addr} {n : Nat} {H : Hp} : ∀ {v : List Val} {u : List V}, RepL K ρ n H v u → Val.plL v = true → DpAll K H u (toDs v)
  | _, _, .nil, _ => by unfold toDs; exact .nil
  | _, _, .cons h t, e => by
    unfold Val.plL at e
    rw [Bool.and_eq_true] at e
    unfold toDs
    exact .cons (dp_of h e.1) (dps_of t e.2)
end
theorem strOk_of {s : List Nat} (h : okS s = true) : PyData.strOk (sv s) = true := by
  unfold PyData.strOk sv
  unfold okS at h
  rw [List.all_eq_true] at h
  simp only [List.all_toArray, List.all_eq_true]
  exact h
mutual
theorem lay_of {K : PySem.W.Frag} {ρ : Nat → Addr} {n : Nat} {H : Hp} : ∀ {v : Val} {u : V}, Rep K ρ n H v u → (toD v).canLay0 = true
  | _, _, .none => by unfold toD; simp [PyData.canLay0]
  | _, _, .bool b => by unfold toD; simp [PyData.canLay0]
  | _, _, .int i => by unfold toD; simp [PyData.canLay0]
  | _, _, .str s h => by unfold toD; simp [PyData.canLay0, strOk_of h]
  | _, _, .tup _ r => by unfold toD; simp [PyData.canLay0, lays_of r]
  | _, _, .fro _ => by unfold toD; simp [PyData.canLay0]
  | _, _, .kt _ => by unfold toD; simp [PyData.canLay0]
  | _, _, .ref _ => by unfold toD; simp [PyData.canLay0]
theorem lays_of {K : PySem.W.Frag} {ρ : Nat → Addr} {n : Nat} {H : Hp} : ∀ {v : List Val} {u : List V}, RepL K ρ n H v u → PyData.canLayAll0 (toDs v) = true
  | _, _, .nil => by unfold toDs; simp [PyData.canLayAll0]
  | _, _, .cons h t => by unfold toDs; simp [PyData.canLayAll0, lay_of h, lays_of t]
end
mutual
theorem depth_of : ∀ v : Val, (toD v).depth = v.depth
  | .none => by unfold toD Val.depth; simp [PyData.depth]
  | .bool b => by unfold toD Val.depth; simp [PyData.depth]
  | .int i => by unfold toD Val.depth; simp [PyData.depth]
  | .str s => by unfold toD Val.depth; simp [PyData.depth]
  | .tup xs => by unfold toD Val.depth; simp [PyData.depth, depths_of xs]
  | .fro _ => by unfold toD Val.depth; simp [PyData.depth]
  | .kt _ => by unfold toD Val.depth; simp [PyData.depth]
  | .ref _ => by unfold toD Val.depth; simp [PyData.depth]
theorem depths_of : ∀ v : List Val, PyData.depthAll (toDs v) = Val.depthL v
  | [] => by unfold toDs Val.depthL; simp [PyData.depthAll]
  | x :: xs => by unfold toDs Val.depthL; simp [PyData.depthAll, depth_of x, depths_of xs]
end
theorem sv_beq (a b : List Nat) : (sv a == sv b) = (a == b) := by
  rw [Bool.eq_iff_iff, beq_iff_eq, beq_iff_eq]
  exact ⟨sv_inj, fun e => by rw [e]⟩
mutual
theorem eqv_of : ∀ (v w : Val), v.pl = true → w.pl = true → PyData.eqv (toD v) (toD w) = v.eqv w
  | .none, w, _, hw => by cases w <;> simp_all [toD, PyData.eqv, Val.eqv, Val.pl]
  | .bool b, w, _, hw => by cases w <;> simp_all [toD, PyData.eqv, Val.eqv, Val.pl]
  | .int i, w, _, hw => by cases w <;> simp_all [toD, PyData.eqv, Val.eqv, Val.pl]
  | .str s, w, _, hw => by cases w <;> simp_all [toD, PyData.eqv, Val.eqv, Val.pl, sv_beq]
  | .tup xs, w, hv, hw => by
    cases w with
    | tup ys =>
      simp only [Val.pl] at hv hw
      simp only [toD, PyData.eqv, Val.eqv]
      exact eqvs_of xs ys hv hw
    | _ => simp_all [toD, PyData.eqv, Val.eqv, Val.pl]
  | .ref _, w, hv, _ => by simp [Val.pl] at hv
theorem eqvs_of : ∀ (v w : List Val), Val.plL v = true → Val.plL w = true → PyData.eqvAll (toDs v) (toDs w) = Val.eqvL v w
  | [], [], _, _ => by simp [toDs, PyData.eqvAll, Val.eqvL]
  | [], y :: ys, _, _ => by simp [toDs, PyData.eqvAll, Val.eqvL]
  | x :: xs, [], _, _ => by simp [toDs, PyData.eqvAll, Val.eqvL]
  | x :: xs, y :: ys, hv, hw => by
    simp only [Val.plL, Bool.and_eq_true] at hv hw
    simp only [toDs, PyData.eqvAll, Val.eqvL]
    rw [eqv_of x y hv.1 hw.1, eqvs_of xs ys hv.2 hw.2]
end
theorem shaped_of {K : PySem.W.Frag} {ρ : Nat → Addr} {n : Nat} {H : Hp} {v : Val} {u : V} (r : Rep K ρ n H v u) (h : v.depth ≤ 60) : SeqAt.shaped (toD v) = true := by
  unfold SeqAt.shaped
  rw [lay_of r, depth_of, Bool.true_and]
  exact decide_eq_true (by omega)
theorem shapeds_of {K : PySem.W.Frag} {ρ : Nat → Addr} {n : Nat} {H : Hp} {v : List Val} {u : List V} (r : RepL K ρ n H v u) (h : Val.depthL v ≤ 59) : SeqAt.shaped (.list (toDs v)) = true ∧ SeqAt.shaped (.tuple (toDs v)) = true := by
  unfold SeqAt.shaped
  constructor
  · simp only [PyData.canLay0, PyData.depth, lays_of r, depths_of, Bool.true_and]
    exact decide_eq_true (by omega)
  · simp only [PyData.canLay0, PyData.depth, lays_of r, depths_of, Bool.true_and]
    exact decide_eq_true (by omega)

theorem eq_data {ρ : Nat → Addr} {m : Mem} {H : Hp} {x y : Val} {u w : V} {b : Bool} (s : Sim W ρ m H) (rx : Rep W.K ρ m.length H x u) (ry : Rep W.K ρ m.length H y w) (e : eqop m x y = some b) :
    ∃ d f, Dp W.K H u d ∧ Dp W.K H w f ∧ SeqAt.shaped d = true ∧ SeqAt.shaped f = true ∧ PyData.eqv d f = b := by
  have plain : ∀ {x y : Val} {u w : V}, Rep W.K ρ m.length H x u → Rep W.K ρ m.length H y w → (if x.dat && y.dat then some (x.eqv y) else none) = some b →
      ∃ d f, Dp W.K H u d ∧ Dp W.K H w f ∧ SeqAt.shaped d = true ∧ SeqAt.shaped f = true ∧ PyData.eqv d f = b := fun {x y u w} rx ry e => by
    split at e
    · rename_i h
      rw [Bool.and_eq_true] at h
      obtain ⟨h1, h2⟩ := h
      unfold Val.dat at h1 h2
      rw [Bool.and_eq_true] at h1 h2
      refine ⟨_, _, dp_of rx h1.1, dp_of ry h2.1, shaped_of rx (of_decide_eq_true h1.2), shaped_of ry (of_decide_eq_true h2.2), ?_⟩
      rw [eqv_of _ _ h1.1 h2.1]
      exact Option.some.inj e
    · cases e
  cases x with
  | ref a =>
    cases y with
    | ref c =>
      simp only [eqop] at e
      split at e
      · rename_i xs ys e1 e2
        split at e
        · rename_i h
          rw [Bool.and_eq_true] at h
          obtain ⟨h1, h2⟩ := h
          unfold datL at h1 h2
          rw [Bool.and_eq_true] at h1 h2
          obtain ⟨_, _, us, q1, r1⟩ := s.list e1
          obtain ⟨_, _, ws, q2, r2⟩ := s.list e2
          cases rx
          cases ry
          refine ⟨.list (toDs xs), .list (toDs ys), .lst (SqL.of q1) (dps_of r1 h1.1), .lst (SqL.of q2) (dps_of r2 h2.1), (shapeds_of r1 (of_decide_eq_true h1.2)).1, (shapeds_of r2 (of_decide_eq_true h2.2)).1, ?_⟩
          simp only [PyData.eqv]
          rw [eqvs_of _ _ h1.1 h2.1]
          exact Option.some.inj e
        · cases e
      · cases e
    | _ => exact plain rx ry e
  | _ => cases y <;> exact plain rx ry e

theorem any_data {x : Val} (hx : x.pl = true) : ∀ xs : List Val, Val.plL xs = true → ((toDs xs).any fun z => PyData.eqv z (toD x)) = xs.any fun z => z.eqv x
  | [], _ => by simp [toDs]
  | y :: ys, h => by
    simp only [Val.plL, Bool.and_eq_true] at h
    simp only [toDs, List.any_cons]
    rw [eqv_of y x h.1 hx, any_data hx ys h.2]

/-- x in t, t a tuple -/
theorem in_tup_D (hu : X.A.units + 65 < cLine) : OpR X (compareOp .In) (fun x y H Q => ∃ d ds, Dp X.K H x d ∧ Dp X.K H y (.tuple ds) ∧ SeqAt.shaped d = true ∧ SeqAt.shaped (.tuple ds) = true ∧ Q (.bl (ds.any fun z => PyData.eqv z d)) H) := by
  intro pins s σ H x y v u Q I rx ry h
  obtain ⟨d, ds, hd, he, sd, se, q⟩ := h
  obtain ⟨as, r1⟩ := Dp.reads I d x v hd rx
  obtain ⟨bs, r2⟩ := Dp.reads I (.tuple ds) y u he ry
  exact SeqAt.in_tuple_reads r2 r1 (SeqAt.canLay_of_shaped se) (SeqAt.canLay_of_shaped sd) (room_in_shaped sd hu) ⟨.bl _, H, I, rfl, q⟩
theorem notIn_tup_D (hu : X.A.units + 65 < cLine) : OpR X (compareOp .NotIn) (fun x y H Q => ∃ d ds, Dp X.K H x d ∧ Dp X.K H y (.tuple ds) ∧ SeqAt.shaped d = true ∧ SeqAt.shaped (.tuple ds) = true ∧ Q (.bl (!ds.any fun z => PyData.eqv z d)) H) := by
  intro pins s σ H x y v u Q I rx ry h
  obtain ⟨d, ds, hd, he, sd, se, q⟩ := h
  obtain ⟨as, r1⟩ := Dp.reads I d x v hd rx
  obtain ⟨bs, r2⟩ := Dp.reads I (.tuple ds) y u he ry
  exact SeqAt.notIn_tuple_reads r2 r1 (SeqAt.canLay_of_shaped se) (SeqAt.canLay_of_shaped sd) (room_in_shaped sd hu) ⟨.bl _, H, I, rfl, q⟩
end
end Py

namespace Py
open PySem PySem.Spec PyProof.Rows L2

section
variable {X : Cx} {W : Wd}
def rCmp (W : Wd) (o : COp) : R2 := fun u w H Q => ∃ ρ m x y b, Sim W ρ m H ∧ Rep W.K ρ m.length H x u ∧ Rep W.K ρ m.length H y w ∧ cmpop o x y m = some b ∧ Q (.bl b) H
theorem cmpI {f : Value → Value → Sem Value} {r : R2} {o : COp} (h : OpR X f r) (k : ∀ u w H Q, rCmp W o u w H Q → r u w H Q) : OpR X f (rCmp W o) := fun pins s σ H x y v u Q I rx ry q => h pins s σ H x y v u Q I rx ry (k _ _ _ _ q)

theorem isNone_of {K : PySem.W.Frag} {ρ : Nat → Addr} {n : Nat} {H : Hp} {x : Val} {u : V} (r : Rep K ρ n H x u) : decide (u = .non) = x.isNone := by
  cases r <;> simp [Val.isNone]
theorem none_of {K : PySem.W.Frag} {ρ : Nat → Addr} {n : Nat} {H : Hp} {u : V} (r : Rep K ρ n H .none u) : u = .non := by cases r; rfl

theorem seq_dat {ρ : Nat → Addr} {m : Mem} {H : Hp} {x y : Val} {u w : V} {b : Bool} (s : Sim W ρ m H) (rx : Rep W.K ρ m.length H x u) (ry : Rep W.K ρ m.length H y w) (e : memop m x y = some b) :
    (∃ c z, u = .str ⟨#[c]⟩ ∧ w = .str z ∧ b = decide (c ∈ z.cps.toList)) ∨
    (∃ d ds, Dp W.K H u d ∧ Dp W.K H w (.list ds) ∧ SeqAt.shaped d = true ∧ SeqAt.shaped (.list ds) = true ∧ (ds.any fun z => PyData.eqv z d) = b) ∨
    (∃ d ds, Dp W.K H u d ∧ Dp W.K H w (.tuple ds) ∧ SeqAt.shaped d = true ∧ SeqAt.shaped (.tuple ds) = true ∧ (ds.any fun z => PyData.eqv z d) = b) := by
  cases ry with
  | fro _ => cases e
  | kt _ => cases e
  | str z hz =>
    unfold memop at e
    cases rx with
    | str a ha =>
      match a, ha, e with
      | [c], ha, e =>
        simp only at e
        split at e
        · refine .inl ⟨c, sv z, rfl, rfl, ?_⟩
          rw [sv_list]
          exact (Option.some.inj e).symm
        · cases e
      | [], _, e => simp at e
      | _ :: _ :: _, _, e => simp at e
    | _ => simp at e
  | tup hy ry =>
    unfold memop at e
    simp only at e
    split at e
    · rename_i h
      rw [Bool.and_eq_true] at h
      obtain ⟨h1, h2⟩ := h
      unfold Val.dat at h1
      unfold datL at h2
      rw [Bool.and_eq_true] at h1 h2
      refine .inr (.inr ⟨_, toDs _, dp_of rx h1.1, .tup (sqT_of hy) (dps_of ry h2.1), shaped_of rx (of_decide_eq_true h1.2), (shapeds_of ry (of_decide_eq_true h2.2)).2, ?_⟩)
      rw [any_data h1.1 _ h2.1]
      exact Option.some.inj e
    · cases e
  | @ref k hk =>
    unfold memop at e
    simp only at e
    split at e
    · rename_i xs ek
      split at e
      · rename_i h
        rw [Bool.and_eq_true] at h
        obtain ⟨h1, h2⟩ := h
        unfold Val.dat at h1
        unfold datL at h2
        rw [Bool.and_eq_true] at h1 h2
        obtain ⟨us, q, r⟩ := s.obj k _ ek
        cases r with
        | list r =>
          refine .inr (.inl ⟨_, toDs _, dp_of rx h1.1, .lst (SqL.of q) (dps_of r h2.1), shaped_of rx (of_decide_eq_true h1.2), (shapeds_of r (of_decide_eq_true h2.2)).1, ?_⟩)
          rw [any_data h1.1 _ h2.1]
          exact Option.some.inj e
      · cases e
    · cases e
  | none => simp [memop] at e
  | bool _ => simp [memop] at e
  | int _ => simp [memop] at e

theorem op_cmp (hW : W.K = X.K) (hu : X.A.units + 65 < cLine) (o : COp) : OpR X (compareOp (copOf o)) (rCmp W o) := by
  cases o with
  | eq =>
    refine cmpI (o := .eq) (op_eqD (by omega)) fun u w H Q h => ?_
    obtain ⟨ρ, m, x, y, b, s, rx, ry, e, q⟩ := h
    obtain ⟨d, f, h1, h2, h3, h4, h5⟩ := eq_data s rx ry e
    rw [hW] at h1 h2
    exact ⟨d, f, h1, h2, h3, h4, by rw [h5]; exact q⟩
  | ne =>
    refine cmpI (o := .ne) (op_neD (by omega)) fun u w H Q h => ?_
    obtain ⟨ρ, m, x, y, b, s, rx, ry, e, q⟩ := h
    obtain ⟨c, e1, e2⟩ := Option.map_eq_some_iff.mp e
    obtain ⟨d, f, h1, h2, h3, h4, h5⟩ := eq_data s rx ry e1
    rw [hW] at h1 h2
    exact ⟨d, f, h1, h2, h3, h4, by rw [h5, e2]; exact q⟩
  | lt =>
    refine cmpI (o := .lt) (op_lt.or op_lt_str) fun u w H Q h => ?_
    obtain ⟨ρ, m, x, y, b, s, rx, ry, e, q⟩ := h
    cases rx with
    | int i =>
      cases ry with
      | int j => exact .inl ⟨i, j, rfl, rfl, by cases e; exact q⟩
      | _ => cases e
    | str a ha =>
      cases ry with
      | str c hc => exact .inr ⟨_, _, rfl, rfl, by rw [sv_list, sv_list]; cases e; exact q⟩
      | _ => cases e
    | _ => cases ry <;> cases e
  | gt =>
    refine cmpI (o := .gt) (op_gt.or op_gt_str) fun u w H Q h => ?_
    obtain ⟨ρ, m, x, y, b, s, rx, ry, e, q⟩ := h
    cases rx with
    | int i =>
      cases ry with
      | int j => exact .inl ⟨i, j, rfl, rfl, by cases e; exact q⟩
      | _ => cases e
    | str a ha =>
      cases ry with
      | str c hc => exact .inr ⟨_, _, rfl, rfl, by rw [sv_list, sv_list]; cases e; exact q⟩
      | _ => cases e
    | _ => cases ry <;> cases e
  | le =>
    refine cmpI (o := .le) op_le fun u w H Q h => ?_
    obtain ⟨ρ, m, x, y, b, s, rx, ry, e, q⟩ := h
    cases rx with
    | int i =>
      cases ry with
      | int j => exact ⟨i, j, rfl, rfl, by cases e; exact q⟩
      | _ => cases e
    | _ => cases ry <;> cases e
  | ge =>
    refine cmpI (o := .ge) op_ge fun u w H Q h => ?_
    obtain ⟨ρ, m, x, y, b, s, rx, ry, e, q⟩ := h
    cases rx with
    | int i =>
      cases ry with
      | int j => exact ⟨i, j, rfl, rfl, by cases e; exact q⟩
      | _ => cases e
    | _ => cases ry <;> cases e
  | isn =>
    refine cmpI (o := .isn) op_isN fun u w H Q h => ?_
    obtain ⟨ρ, m, x, y, b, s, rx, ry, e, q⟩ := h
    cases y with
    | none => exact ⟨none_of ry, by rw [isNone_of rx]; cases e; exact q⟩
    | _ => cases e
  | notn =>
    refine cmpI (o := .notn) op_notN fun u w H Q h => ?_
    obtain ⟨ρ, m, x, y, b, s, rx, ry, e, q⟩ := h
    cases y with
    | none => exact ⟨none_of ry, by rw [isNone_of rx]; cases e; exact q⟩
    | _ => cases e
  | mem =>
    refine cmpI (o := .mem) (op_in_sign.or ((op_inD hu).or (in_tup_D hu))) fun u w H Q h => ?_
    obtain ⟨ρ, m, x, y, b, s, rx, ry, e, q⟩ := h
    rcases seq_dat s rx ry e with ⟨c, z, h1, h2, h3⟩ | ⟨d, ds, h1, h2, h3, h4, h5⟩ | ⟨d, ds, h1, h2, h3, h4, h5⟩
    · exact .inl ⟨c, z, h1, h2, by rw [← h3]; exact q⟩
    · rw [hW] at h1 h2
      exact .inr (.inl ⟨d, ds, h1, h2, h3, h4, by rw [h5]; exact q⟩)
    · rw [hW] at h1 h2
      exact .inr (.inr ⟨d, ds, h1, h2, h3, h4, by rw [h5]; exact q⟩)
  | nmem =>
    refine cmpI (o := .nmem) (op_notIn_sign.or ((op_notInD hu).or (notIn_tup_D hu))) fun u w H Q h => ?_
    obtain ⟨ρ, m, x, y, b, s, rx, ry, e, q⟩ := h
    obtain ⟨c0, e1, e2⟩ := Option.map_eq_some_iff.mp e
    rcases seq_dat s rx ry e1 with ⟨c, z, h1, h2, h3⟩ | ⟨d, ds, h1, h2, h3, h4, h5⟩ | ⟨d, ds, h1, h2, h3, h4, h5⟩
    · exact .inl ⟨c, z, h1, h2, by rw [← h3, e2]; exact q⟩
    · rw [hW] at h1 h2
      exact .inr (.inl ⟨d, ds, h1, h2, h3, h4, by rw [h5, e2]; exact q⟩)
    · rw [hW] at h1 h2
      exact .inr (.inr ⟨d, ds, h1, h2, h3, h4, by rw [h5, e2]; exact q⟩)

/-! ### truth, len, places -/
theorem truth_of (hW : W.K = X.K) {ρ : Nat → Addr} {m : Mem} {H : Hp} {x : Val} {u : V} {b : Bool} (s : Sim W ρ m H) (r : Rep W.K ρ m.length H x u) (e : truth m x = some b) : TruV X.K u H b := by
  cases r with
  | kt _ => cases e
  | none => cases e; exact rfl
  | bool c => cases e; exact rfl
  | int i => cases e; exact rfl
  | str a ha =>
    unfold truth at e
    simp only at e
    split at e
    · rename_i h
      cases e
      refine ⟨by rw [sv_len, ← sz_line]; exact h, ?_⟩
      rw [sv_len]
      cases a <;> simp [bne]
      rename_i c t
      intro z
      have : (t.length : Int) + 1 = 0 := z
      omega
    · cases e
  | @fro xs a h =>
    cases e
    refine .inl ⟨_, by rw [← hW]; exact h.l, ?_⟩
    cases xs <;> rfl
  | @tup xs a vs h r =>
    cases e
    refine .inr (.inl ⟨vs, by rw [← hW]; exact sqT_of h, ?_⟩)
    cases r <;> rfl
  | @ref k hk =>
    unfold truth at e
    simp only at e
    split at e
    · rename_i xs ek
      cases e
      obtain ⟨us, q, r⟩ := s.obj k _ ek
      cases r with
      | list r =>
        refine .inl ⟨_, SqL.of q, ?_⟩
        cases r <;> rfl
    · cases e
theorem ixOf_eq (n : Nat) (i : Int) : ixOf n i = ixN n i := rfl
theorem atIx_get {K : PySem.W.Frag} {ρ : Nat → Addr} {n : Nat} {H : Hp} {xs : List Val} {us : List V} {i : Int} {v : Val} (r : RepL K ρ n H xs us) (e : atIx xs i = some v) : ∃ u, atI us i = some u ∧ Rep K ρ n H v u := by
  unfold atIx at e
  unfold atI
  rw [← r.length, ← ixOf_eq]
  obtain ⟨j, e1, e2⟩ := Option.bind_eq_some_iff.mp e
  obtain ⟨u, h1, h2⟩ := r.get e2
  exact ⟨u, by rw [e1]; exact h1, h2⟩
def rIdx (W : Wd) : R2 := fun u w H Q => ∃ ρ m x y v, Sim W ρ m H ∧ Rep W.K ρ m.length H x u ∧ Rep W.K ρ m.length H y w ∧ idxop m x y = some v ∧ ∀ z, Rep W.K ρ m.length H v z → Q z H
theorem ix_any (hW : W.K = X.K) : IxR X (rIdx W) := by
  intro v0 sl0 pins st σ H u w ov iv Q I ru rw' h hs
  refine ix_seq v0 sl0 pins st σ H u w ov iv Q I ru rw' ?_ hs
  obtain ⟨ρ, m, x, y, v, s, rx, ry, e, q⟩ := h
  cases rx with
  | str a ha =>
    cases ry with
    | int k =>
      unfold idxop at e
      simp only at e
      split at e
      · rename_i hl
        obtain ⟨c, e1, e2⟩ := Option.map_eq_some_iff.mp e
        subst e2
        refine .inr (.inr ⟨_, k, c, rfl, rfl, by rw [sv_len, ← sz_line]; exact hl, ?_, q _ ?_⟩)
        · rw [sv_list]
          unfold atIx at e1
          unfold atI
          rw [← ixOf_eq]; exact e1
        · have hc : c ∈ a := by
            unfold atIx at e1
            obtain ⟨j, _, e3⟩ := Option.bind_eq_some_iff.mp e1
            exact List.mem_of_getElem? e3
          exact .str [c] (okS_mem ha fun z hz => by rw [List.mem_singleton.mp hz]; exact hc)
      · cases e
    | _ => cases e
  | @fro xs a hf =>
    cases ry with
    | int k =>
      have e' : atIx (xs.map Val.int) k = some v := by
        have e2 : (atIx xs k).map Val.int = some v := e
        unfold atIx at e2 ⊢
        rw [List.length_map]
        cases q : ixOf xs.length k with
        | none => rw [q] at e2; cases e2
        | some j =>
          rw [q, Option.bind_some] at e2
          rw [Option.bind_some, List.getElem?_map]
          exact e2
      obtain ⟨z, e1, r1⟩ := atIx_get (RepL.ints (K := W.K) (ρ := ρ) (n := m.length) (H := H) xs) e'
      exact .inl ⟨a, _, k, z, rfl, rfl, by rw [← hW]; exact hf.l, e1, q z r1⟩
    | _ => cases e
  | @tup xs a vs ha ra =>
    cases ry with
    | int k =>
      obtain ⟨z, e1, r1⟩ := atIx_get ra e
      exact .inr (.inl ⟨a, vs, k, z, rfl, rfl, by rw [← hW]; exact sqT_of ha, e1, q z r1⟩)
    | _ => cases e
  | @ref k hk =>
    unfold idxop at e
    simp only at e
    split at e
    · rename_i xs ek
      cases ry with
      | int i =>
        obtain ⟨us, q1, r⟩ := s.obj k _ ek
        cases r with
        | list r =>
          obtain ⟨z, e1, r1⟩ := atIx_get r e
          exact .inl ⟨_, _, i, z, rfl, rfl, SqL.of q1, e1, q z r1⟩
      | _ => cases e
    · cases e
  | _ => cases ry <;> cases e

/-! ### slices -/
theorem cutIx_eq (n d : Nat) (o : Option Int) : cutIx n d o = HT.sIx n d o := by cases o <;> rfl
theorem cut_rep {K : PySem.W.Frag} {ρ : Nat → Addr} {n : Nat} {H : Hp} {xs : List Val} {us : List V} (lo hi : Option Int) (r : RepL K ρ n H xs us) : RepL K ρ n H (cut xs lo hi) (cutV us lo hi) := by
  unfold cut cutV
  rw [cutIx_eq, cutIx_eq, r.length]
  exact (r.drop _).take _
def rSli (W : Wd) : V → Option Int → Option Int → Hp → VK → Prop := fun u lo hi H Q => ∃ ρ m x, Sim W ρ m H ∧ Rep W.K ρ m.length H x u ∧ PV W ρ m.length H (sliceop m x lo hi) Q
theorem sl_any (hW : W.K = X.K) : SlR X (rSli W) := by
  intro pins st σ H x v vl vu lo hi sl Q I rx0 hs pl pu h
  refine (sl_list.or (sl_tupA.or sl_str)) pins st σ H x v vl vu lo hi sl Q I rx0 hs pl pu ?_
  obtain ⟨ρ, m, y, s, ry, p⟩ := h
  cases ry with
  | str a ha =>
    unfold sliceop at p
    simp only at p
    split at p
    · rename_i hl
      refine .inr (.inr ⟨_, rfl, by rw [sv_len, ← sz_line]; exact hl, ?_⟩)
      have e : cutS (sv a) lo hi = sv (cut a lo hi) := by
        unfold cutS cut
        rw [sv_list, sv_len, cutIx_eq, cutIx_eq]; rfl
      rw [e]
      refine s.one p (.str _ (okS_mem ha fun c hc => ?_))
      unfold cut at hc
      exact List.mem_of_mem_drop (List.mem_of_mem_take hc)
    · exact (show False from p).elim
  | fro _ => exact (show False from p).elim
  | kt _ => exact (show False from p).elim
  | @tup xs a vs hx rx =>
    refine .inr (.inl ⟨a, vs, rfl, by rw [← hW]; exact sqT_of hx, fun hw => ?_, fun _ => s.tupn p (cut_rep lo hi rx)⟩)
    have e : cut xs lo hi = xs := by
      unfold cut
      rw [cutIx_eq, cutIx_eq, rx.length, hw.1, hw.2, List.drop_zero, Nat.sub_zero, ← rx.length, List.take_length]
    unfold sliceop at p
    simp only [e] at p
    exact s.one p (.tup hx rx)
  | @ref k hk =>
    unfold sliceop at p
    simp only at p
    split at p
    · rename_i xs ek
      obtain ⟨_, _, us, q, r⟩ := s.list ek
      exact .inl ⟨_, us, rfl, SqL.of q, s.lst p (cut_rep lo hi r)⟩
    · exact (show False from p).elim
  | none => exact (show False from p).elim
  | bool _ => exact (show False from p).elim
  | int _ => exact (show False from p).elim
end
end Py

namespace Py
open PySem PySem.Spec PyProof.Rows L2

section
variable {X : Cx} {W : Wd}
def rBlt (W : Wd) (f : Blt) : List V → Hp → VK → Prop := fun us H Q => ∃ ρ m vs, Sim W ρ m H ∧ RepL W.K ρ m.length H vs us ∧ PV W ρ m.length H (bltop f vs m) Q
theorem cI {f : Value} {r : List V → Hp → VK → Prop} {b : Blt} (h : CallR X f r) (k : ∀ us H Q, rBlt W b us H Q → r us H Q) : CallR X f (rBlt W b) := fun pins s σ H xs us Q I rx q => h pins s σ H xs us Q I rx (k _ _ _ q)

theorem ent_len {K : PySem.W.Frag} {ρ : Nat → Addr} {n : Nat} {H : Hp} {kvs : List (Val × Val)} {us : List (List Key × V)} (h : EntT K ρ n H kvs us) : kvs.length = us.length := by
  induction h with
  | nil => rfl
  | cons _ _ _ ih => simp [ih]
theorem lenV_of (hW : W.K = X.K) {ρ : Nat → Addr} {m : Mem} {H : Hp} {x : Val} {u : V} {n : Nat} (s : Sim W ρ m H) (r : Rep W.K ρ m.length H x u) (e : lenop m x = some n) : LenV X.K u H n ∨ ∃ p kvs, u = .ref p ∧ H p = some (.dT kvs) ∧ n = kvs.length := by
  cases r with
  | str a ha =>
    unfold lenop at e
    simp only at e
    split at e
    · rename_i h
      cases e
      exact .inl ⟨by rw [sv_len, ← sz_line]; exact h, (sv_len a).symm⟩
    · cases e
  | @fro xs a h =>
    cases e
    exact .inl (.inl ⟨_, by rw [← hW]; exact h.l, (List.length_map _).symm⟩)
  | @tup xs a vs h r =>
    cases e
    exact .inl (.inr ⟨vs, by rw [← hW]; exact sqT_of h, r.length⟩)
  | @ref k hk =>
    unfold lenop at e
    simp only at e
    split at e
    · rename_i xs ek
      cases e
      obtain ⟨us, q, r⟩ := s.obj k _ ek
      cases r with
      | list r => exact .inl (.inl ⟨_, SqL.of q, r.length⟩)
    · rename_i kvs ek
      cases e
      obtain ⟨us, q, r⟩ := s.obj k _ ek
      cases r with
      | dT r => exact .inr ⟨_, _, rfl, q, ent_len r⟩
    · cases e
  | none => cases e
  | bool _ => cases e
  | int _ => cases e
  | kt _ => cases e
theorem ints_of {K : PySem.W.Frag} {ρ : Nat → Addr} {n : Nat} {H : Hp} : ∀ {xs : List Val} {us : List V} {ns : List Int}, RepL K ρ n H xs us → intsOf xs = some ns → us = ns.map V.int
  | _, _, ns, .nil, e => by cases e; rfl
  | _, _, ns, .cons h t, e => by
    cases h with
    | int i =>
      simp only [intsOf] at e
      obtain ⟨ms, e1, e2⟩ := Option.map_eq_some_iff.mp e
      subst e2
      rw [ints_of t e1]; rfl
    | _ => simp [intsOf] at e
theorem b_len (hW : W.K = X.K) : CallR X (.builtin "len") (rBlt W .len) := by
  refine cI (call_len.or call_len_dT) fun us H Q h => ?_
  obtain ⟨ρ, m, vs, s, r, p⟩ := h
  match vs, r, p with
  | [v], .cons r .nil, p =>
    unfold bltop at p
    simp only at p
    split at p
    · rename_i n e
      rcases lenV_of hW s r e with l | ⟨a, kvs, e1, e2, e3⟩
      · exact .inl ⟨_, n, rfl, l, s.one p (.int _)⟩
      · subst e1 e3
        exact .inr ⟨a, kvs, rfl, e2, s.one p (.int _)⟩
    · exact (show False from p).elim
  | [], _, p => exact (show False from p).elim
  | _ :: _ :: _, _, p => exact (show False from p).elim
theorem b_min (hc : X.calm = true) : CallR X (.builtin "min") (rBlt W .min) := by
  refine cI (call_min2 hc) fun us H Q h => ?_
  obtain ⟨ρ, m, vs, s, r, p⟩ := h
  unfold bltop at p
  simp only at p
  split at p
  · rename_i i j
    match us, r with
    | _, .cons (.int _) (.cons (.int _) .nil) => exact ⟨i, j, rfl, s.one p (.int _)⟩
  · exact (show False from p).elim
theorem b_max (hc : X.calm = true) : CallR X (.builtin "max") (rBlt W .max) := by
  refine cI (call_max2 hc) fun us H Q h => ?_
  obtain ⟨ρ, m, vs, s, r, p⟩ := h
  unfold bltop at p
  simp only at p
  split at p
  · rename_i i j
    match us, r with
    | _, .cons (.int _) (.cons (.int _) .nil) => exact ⟨i, j, rfl, s.one p (.int _)⟩
  · exact (show False from p).elim
theorem b_abs : CallR X (.builtin "abs") (rBlt W .abs) := by
  refine cI call_abs fun us H Q h => ?_
  obtain ⟨ρ, m, vs, s, r, p⟩ := h
  unfold bltop at p
  simp only at p
  split at p
  · rename_i i
    match us, r with
    | _, .cons (.int _) .nil => exact ⟨i, rfl, s.one p (.int _)⟩
  · exact (show False from p).elim
theorem b_int : CallR X (.type "int") (rBlt W .int) := by
  refine cI call_int1 fun us H Q h => ?_
  obtain ⟨ρ, m, vs, s, r, p⟩ := h
  unfold bltop at p
  simp only at p
  split at p
  · rename_i i
    match us, r with
    | _, .cons (.int _) .nil => exact .inl ⟨i, rfl, s.one p (.int _)⟩
  · rename_i i
    match us, r with
    | _, .cons (.bool _) .nil => exact .inr ⟨i, rfl, s.one p (.int _)⟩
  · exact (show False from p).elim
/-- sum of a tuple of ints -/
def rSumT (K : PySem.W.Frag) : List V → Hp → VK → Prop := fun vs H Q => ∃ (a : Addr) (ns : List Int), vs = [V.ref a] ∧ SqT K H a (ns.map V.int) ∧ Q (.int ns.sum) H
theorem cr_sumT (hc : X.calm = true) : CallR X (.builtin "sum") (rSumT X.K) := by
  intro pins s σ H vs us Q I r h
  obtain ⟨a, ns, rfl, hs, q⟩ := h
  obtain ⟨its, rv, hl, _⟩ := I.tuple hs
  rw [Vals.ref1 r]
  obtain ⟨xs, e⟩ := rv.ints.allInts.items
  have hn : numsOf (intItems xs).toList = ns := by rw [← e]; exact rv.ints.numsOf
  rw [nums_intItems] at hn
  rw [e] at hl
  refine PySem.W.ktm_sumG (I.ok.hd hc) hl fun h' tk t' hk => ?_
  rw [preSum_eq, List.take_of_length_le (by simp), hn]
  exact ⟨.int _, H, I.kept hk, ⟨_, rfl⟩, q⟩
theorem b_sum (hW : W.K = X.K) (hc : X.calm = true) : CallR X (.builtin "sum") (rBlt W .sum) := by
  refine cI (r := fun us H Q => rSum X.K us H Q ∨ rSumT X.K us H Q) (fun pins s σ H xs us Q I rx q => q.elim (cr_sum hc pins s σ H xs us Q I rx) (cr_sumT hc pins s σ H xs us Q I rx)) fun us H Q h => ?_
  obtain ⟨ρ, m, vs, s, r, p⟩ := h
  unfold bltop at p
  simp only at p
  split at p
  · rename_i v
    split at p
    · rename_i ns e
      obtain ⟨xs, e1, e2⟩ := Option.bind_eq_some_iff.mp e
      match us, r with
      | [u], .cons r .nil =>
        obtain ⟨a, ws, e3, e4, rl⟩ := s.seq r e1
        have e5 := ints_of rl e2
        subst e3 e5
        rw [hW] at e4
        rcases e4 with e4 | e4
        · exact .inl ⟨a, ns, rfl, e4, s.one p (.int _)⟩
        · exact .inr ⟨a, ns, rfl, e4, s.one p (.int _)⟩
    · exact (show False from p).elim
  · exact (show False from p).elim
theorem bools_of {K : PySem.W.Frag} {ρ : Nat → Addr} {n : Nat} {H : Hp} : ∀ {xs : List Val} {us : List V} {bs : List Bool}, RepL K ρ n H xs us → boolsOf xs = some bs → us = bs.map V.bl
  | _, _, bs, .nil, e => by cases e; rfl
  | _, _, bs, .cons h t, e => by
    unfold boolsOf at e
    split at e
    · rename_i e1; cases e1
    · rename_i b r e1
      cases e1
      obtain ⟨ys, e2, e3⟩ := Option.map_eq_some_iff.mp e
      subst e3
      cases h
      rw [bools_of t e2]; rfl
    · cases e
theorem b_all (hW : W.K = X.K) (hc : X.calm = true) : CallR X (.builtin "all") (rBlt W .all) := by
  refine cI (cr_all hc) fun us H Q h => ?_
  obtain ⟨ρ, m, vs, s, r, p⟩ := h
  unfold bltop at p
  simp only at p
  split at p
  · rename_i k
    split at p
    · rename_i bs e
      obtain ⟨xs, e1, e2⟩ := Option.bind_eq_some_iff.mp e
      obtain ⟨hk, _, ws, q, rl⟩ := s.list e1
      match us, r with
      | _, .cons (.ref _) .nil =>
        have e5 := bools_of rl e2
        subst e5
        exact ⟨_, bs, rfl, SqL.of q, s.one p (.bool _)⟩
    · exact (show False from p).elim
  · exact (show False from p).elim
theorem b_list (hW : W.K = X.K) : CallR X (.type "list") (rBlt W .list) := by
  refine cI call_list_of fun us H Q h => ?_
  obtain ⟨ρ, m, vs, s, r, p⟩ := h
  unfold bltop at p
  simp only at p
  split at p
  · split at p
    · rename_i xs e
      match us, r with
      | _, .cons r .nil =>
        obtain ⟨a, ws, rfl, hs, rl⟩ := s.seq r e
        rw [hW] at hs
        exact ⟨a, ws, rfl, hs, s.lst p rl⟩
    · exact (show False from p).elim
  · exact (show False from p).elim
theorem b_tuple (hW : W.K = X.K) : CallR X (.type "tuple") (rBlt W .tuple) := by
  refine cI call_tuple_of fun us H Q h => ?_
  obtain ⟨ρ, m, vs, s, r, p⟩ := h
  unfold bltop at p
  simp only at p
  split at p
  · rename_i v
    split at p
    · rename_i xs e
      match us, r with
      | _, .cons r .nil =>
        cases r with
        | tup ht rl =>
          cases e
          exact ⟨_, _, rfl, .inr ⟨by rw [← hW]; exact sqT_of ht, s.one p (.tup ht rl)⟩⟩
        | fro hf =>
          cases e
          exact ⟨_, _, rfl, .inl ⟨by rw [← hW]; exact hf.l, s.tupn p (RepL.ints _)⟩⟩
        | ref hk =>
          obtain ⟨_, _, ws, q, rl⟩ := s.list e
          exact ⟨_, ws, rfl, .inl ⟨SqL.of q, s.tupn p rl⟩⟩
        | _ => cases e
    · exact (show False from p).elim
  · exact (show False from p).elim

/-! ### methods of lists -/
def rBm (W : Wd) (f : BM) : V → List V → Hp → VK → Prop := fun u us H Q => ∃ ρ m v vs, Sim W ρ m H ∧ Rep W.K ρ m.length H v u ∧ RepL W.K ρ m.length H vs us ∧ PV W ρ m.length H (bmop f v vs m) Q
theorem mI {id : String} {r : V → List V → Hp → VK → Prop} {b : BM} (h : MtR X id r) (k : ∀ u us H Q, rBm W b u us H Q → r u us H Q) : MtR X id (rBm W b) := fun pins s σ H x xs v us Q I rx rs q => h pins s σ H x xs v us Q I rx rs (k _ _ _ _ q)
theorem m_append : MtR X "list.append" (rBm W .append) := by
  refine mI (fun pins s σ H x xs v us Q I rx rs q => mt_append pins s σ H x xs v us Q I rx rs q) fun u us H Q h => ?_
  obtain ⟨ρ, m, v, vs, s, r, rs, p⟩ := h
  unfold bmop at p
  simp only at p
  split at p
  · rename_i k y
    split at p
    · rename_i xs e
      split at p
      · rename_i hl
        obtain ⟨hk, hm0, ws, q, rl⟩ := s.list e
        match u, us, r, rs with
        | _, _, .ref _, .cons ry .nil =>
          exact ⟨_, ws, _, rfl, rfl, q, by rw [← rl.length, ← sz_line]; exact hl, s.putv hk (nfd hm0) p (.list (rl.append (.cons ry .nil))) .none⟩
      · exact (show False from p).elim
    · exact (show False from p).elim
  · exact (show False from p).elim
theorem RepL.erase {K : PySem.W.Frag} {ρ : Nat → Addr} {n : Nat} {H : Hp} : ∀ {v : List Val} {u : List V} (k : Nat), RepL K ρ n H v u → RepL K ρ n H (v.eraseIdx k) (u.eraseIdx k)
  | _, _, _, .nil => .nil
  | _, _, 0, .cons _ t => t
  | _, _, k + 1, .cons h t => .cons h (RepL.erase k t)
theorem seqIx_of {n k : Nat} {i : Int} (h : ixOf n i = some k) : seqIndex? i n = some k := by
  unfold ixOf at h
  unfold seqIndex?
  split at h
  · split at h
    · cases h
      rename_i h0 h1
      have : ¬ i < 0 := by omega
      simp [this, h0, h1]
    · cases h
  · split at h
    · cases h
      rename_i h0 h1
      have a : i < 0 := by omega
      have b : 0 ≤ i + (n : Int) := by omega
      have c : i + (n : Int) < n := by omega
      simp [a, b, c]
    · cases h
theorem m_pop : MtR X "list.pop" (rBm W .pop) := by
  refine mI (r := fun u us H Q => rPop u us H Q ∨ rPopAt u us H Q) (fun pins s σ H x xs v us Q I rx rs q => q.elim (mt_pop pins s σ H x xs v us Q I rx rs) (mt_popAt pins s σ H x xs v us Q I rx rs)) fun u us H Q h => ?_
  obtain ⟨ρ, m, v, vs, s, r, rs, p⟩ := h
  unfold bmop at p
  simp only at p
  split at p
  · rename_i k
    split at p
    · rename_i xs e
      split at p
      · rename_i y ey
        obtain ⟨hk, hm0, ws, q, rl⟩ := s.list e
        obtain ⟨w, h1, h2⟩ := rl.get ey
        match u, us, r, rs with
        | _, _, .ref _, .nil =>
          exact .inl ⟨_, ws, w, rfl, rfl, q, by rw [← rl.length]; exact h1, s.putv hk (nfd hm0) p (.list rl.dropLast) h2⟩
      · exact (show False from p).elim
    · exact (show False from p).elim
  · rename_i k i
    split at p
    · rename_i xs e
      split at p
      · rename_i pr ey
        split at p
        · rename_i hi
          obtain ⟨hk, hm0, ws, q, rl⟩ := s.list e
          obtain ⟨j, e1, e2⟩ := Option.bind_eq_some_iff.mp ey
          obtain ⟨y, e3, e4⟩ := Option.map_eq_some_iff.mp e2
          subst e4
          obtain ⟨w, h1, h2⟩ := rl.get e3
          match u, us, r, rs with
          | _, _, .ref _, .cons (.int _) .nil =>
            exact .inr ⟨_, ws, i, j, w, rfl, rfl, q, by have := hi.1; omega, by have := hi.2; omega, by rw [← rl.length]; exact seqIx_of e1, h1, s.putv hk (nfd hm0) p (.list (rl.erase j)) h2⟩
        · exact (show False from p).elim
      · exact (show False from p).elim
    · exact (show False from p).elim
  · exact (show False from p).elim
theorem m_extend : MtR X "list.extend" (rBm W .extend) := by
  refine mI (fun pins s σ H x xs v us Q I rx rs q => mt_extend pins s σ H x xs v us Q I rx rs q) fun u us H Q h => ?_
  obtain ⟨ρ, m, v, vs, s, r, rs, p⟩ := h
  unfold bmop at p
  simp only at p
  split at p
  · rename_i k j
    split at p
    · rename_i xs ys e1 e2
      split at p
      · rename_i hl
        obtain ⟨hk, hm0, ws, q, rl⟩ := s.list e1
        obtain ⟨hj, hm1, zs, q2, rl2⟩ := s.list e2
        match u, us, r, rs with
        | _, _, .ref _, .cons (.ref _) .nil =>
          exact ⟨_, _, ws, zs, rfl, rfl, q, q2, by rw [← rl.length, ← rl2.length, ← sz_line]; exact hl.1, s.putv hk (nfd hm0) p (.list (rl.append rl2)) .none⟩
      · exact (show False from p).elim
    · exact (show False from p).elim
  · exact (show False from p).elim
theorem m_clear : MtR X "list.clear" (rBm W .clear) := by
  refine mI (fun pins s σ H x xs v us Q I rx rs q => mt_clear pins s σ H x xs v us Q I rx rs q) fun u us H Q h => ?_
  obtain ⟨ρ, m, v, vs, s, r, rs, p⟩ := h
  unfold bmop at p
  simp only at p
  split at p
  · rename_i k
    split at p
    · rename_i xs e
      obtain ⟨hk, hm0, ws, q, rl⟩ := s.list e
      match u, us, r, rs with
      | _, _, .ref _, .nil =>
        exact ⟨_, ws, rfl, rfl, q, s.putv hk (nfd hm0) p (.list .nil) .none⟩
    · exact (show False from p).elim
  · exact (show False from p).elim
theorem m_reverse : MtR X "list.reverse" (rBm W .reverse) := by
  refine mI (fun pins s σ H x xs v us Q I rx rs q => mt_reverse pins s σ H x xs v us Q I rx rs q) fun u us H Q h => ?_
  obtain ⟨ρ, m, v, vs, s, r, rs, p⟩ := h
  unfold bmop at p
  simp only at p
  split at p
  · rename_i k
    split at p
    · rename_i xs e
      obtain ⟨hk, hm0, ws, q, rl⟩ := s.list e
      match u, us, r, rs with
      | _, _, .ref _, .nil =>
        exact ⟨_, ws, rfl, rfl, q, s.putv hk (nfd hm0) p (.list rl.reverse) .none⟩
    · exact (show False from p).elim
  · exact (show False from p).elim
end
end Py

namespace Py
open PySem PySem.Spec PyProof.Rows L2

/-! ### no operation raises -/
theorem binop_nx {o : BOp} {x y : Val} {m m' : Mem} {c : PySem.Str} {fs} : binop o x y m ≠ .exc c fs m' := by
  unfold binop; split <;> (try split) <;> (try split) <;> simp
theorem sliceop_nx {x : Val} {lo hi : Option Int} {m m' : Mem} {c : PySem.Str} {fs} : sliceop m x lo hi ≠ .exc c fs m' := by
  unfold sliceop; split <;> (try split) <;> simp
theorem negop_nx {x : Val} {m m' : Mem} {c : PySem.Str} {fs} : negop x m ≠ .exc c fs m' := by
  unfold negop; split <;> simp
theorem bltop_nx {f : Blt} {vs : List Val} {m m' : Mem} {c : PySem.Str} {fs} : bltop f vs m ≠ .exc c fs m' := by
  unfold bltop; cases f <;> simp only <;> split <;> (try split) <;> simp
theorem bmop_nx {f : BM} {o : Val} {vs : List Val} {m m' : Mem} {c : PySem.Str} {fs} : bmop f o vs m ≠ .exc c fs m' := by
  unfold bmop; cases f <;> simp only <;> split <;> (try split) <;> (try split) <;> (try split) <;> simp
section
variable {W : Wd} {wx : WX} {σ : L2.St} {ρ : Nat → Addr} {n : Nat} {H : Hp}
theorem Post.nx {r : Res Val} {Q : VK} (p : Post W wx σ ρ n H r Q) (h : ∀ c fs m, r ≠ .exc c fs m) : PV W ρ n H r Q := by
  cases r with
  | ok v m => exact p
  | exc c fs m => exact absurd rfl (h c fs m)
  | err => exact p
end

/-! ### cells that nothing holds may go -/
mutual
theorem under_mono {n n' : Nat} (h : n ≤ n') : ∀ v : Val, v.under n = true → v.under n' = true
  | .none, _ => by unfold Val.under; rfl
  | .bool _, _ => by unfold Val.under; rfl
  | .int _, _ => by unfold Val.under; rfl
  | .str _, _ => by unfold Val.under; rfl
  | .tup xs, e => by unfold Val.under at e ⊢; exact underL_mono h xs e
  | .fro _, _ => by unfold Val.under; rfl
  | .kt _, _ => by unfold Val.under; rfl
  | .ref k, e => by
    unfold Val.under at e ⊢
    exact decide_eq_true (Nat.lt_of_lt_of_le (of_decide_eq_true e) h)
theorem underL_mono {n n' : Nat} (h : n ≤ n') : ∀ v : List Val, Val.underL n v = true → Val.underL n' v = true
  | [], _ => by unfold Val.underL; rfl
  | x :: xs, e => by
    unfold Val.underL at e ⊢
    rw [Bool.and_eq_true] at e ⊢
    exact ⟨under_mono h x e.1, underL_mono h xs e.2⟩
end
theorem Ob.under_mono {n n' : Nat} (h : n ≤ n') (o : Ob) (e : o.under n = true) : o.under n' = true := by
  cases o with
  | list xs => unfold Ob.under at *; exact underL_mono h _ e
  | dict t kvs =>
    unfold Ob.under at *
    rw [List.all_eq_true] at *
    intro p hp
    have := e p hp
    rw [Bool.and_eq_true] at this ⊢
    exact ⟨Py.under_mono h _ this.1, Py.under_mono h _ this.2⟩
  | fdict kvs =>
    unfold Ob.under at *
    rw [List.all_eq_true] at *
    intro p hp
    have := e p hp
    rw [Bool.and_eq_true] at this ⊢
    exact ⟨Py.under_mono h _ this.1, Py.under_mono h _ this.2⟩
  | inst c fs =>
    unfold Ob.under at *
    rw [List.all_eq_true] at *
    exact fun p hp => Py.under_mono h _ (e p hp)
section
variable {K : PySem.W.Frag} {ρ : Nat → Addr} {n N : Nat} {H : Hp}
mutual
theorem Rep.under : ∀ {v : Val} {u : V}, Rep K ρ n H v u → v.under n = true
  | _, _, .none => by unfold Val.under; rfl
  | _, _, .bool _ => by unfold Val.under; rfl
  | _, _, .int _ => by unfold Val.under; rfl
  | _, _, .str _ _ => by unfold Val.under; rfl
  | _, _, .tup _ r => by unfold Val.under; exact RepL.under r
  | _, _, .fro _ => by unfold Val.under; rfl
  | _, _, .kt _ => by unfold Val.under; rfl
  | _, _, .ref h => by unfold Val.under; exact decide_eq_true h
theorem RepL.under : ∀ {v : List Val} {u : List V}, RepL K ρ n H v u → Val.underL n v = true
  | _, _, .nil => by unfold Val.underL; rfl
  | _, _, .cons h t => by unfold Val.underL; rw [Rep.under h, RepL.under t]; rfl
end
mutual
theorem Rep.low : ∀ {v : Val} {u : V}, Rep K ρ N H v u → v.under n = true → Rep K ρ n H v u
  | _, _, .none, _ => .none
  | _, _, .bool _, _ => .bool _
  | _, _, .int _, _ => .int _
  | _, _, .str _ h, _ => .str _ h
  | _, _, .tup h r, e => .tup h (RepL.low r (by unfold Val.under at e; exact e))
  | _, _, .fro h, _ => .fro h
  | _, _, .kt h, _ => .kt h
  | _, _, .ref _, e => .ref (by unfold Val.under at e; exact of_decide_eq_true e)
theorem RepL.low : ∀ {v : List Val} {u : List V}, RepL K ρ N H v u → Val.underL n v = true → RepL K ρ n H v u
  | _, _, .nil, _ => .nil
  | _, _, .cons h t, e => by
    unfold Val.underL at e
    rw [Bool.and_eq_true] at e
    exact .cons (Rep.low h e.1) (RepL.low t e.2)
end
theorem FldR.under {v u} (h : FldR K ρ n H v u) : (v.all fun p => p.2.under n) = true := by
  induction h with
  | nil => rfl
  | cons h t ih => rw [List.all_cons, h.under, ih]; rfl
theorem FldR.low {v u} (h : FldR K ρ N H v u) (e : (v.all fun p => p.2.under n) = true) : FldR K ρ n H v u := by
  induction h with
  | nil => exact .nil
  | cons h t ih =>
    rw [List.all_cons, Bool.and_eq_true] at e
    exact .cons (h.low e.1) (ih e.2)
theorem KeyR.under {x k} (h : KeyR x k) : x.under n = true := by cases h <;> (unfold Val.under; rfl)
theorem KeyRs.under {x k} (h : KeyRs x k) : Val.underL n x = true := by
  induction h with
  | nil => unfold Val.underL; rfl
  | cons h t ih => unfold Val.underL; rw [h.under, ih]; rfl
theorem EntK.under {v u} (h : EntK K ρ n H v u) : (v.all fun p => p.1.under n && p.2.under n) = true := by
  induction h with
  | nil => rfl
  | cons k h t ih => rw [List.all_cons, h.under, k.under, ih]; rfl
theorem EntK.low {v u} (h : EntK K ρ N H v u) (e : (v.all fun p => p.1.under n && p.2.under n) = true) : EntK K ρ n H v u := by
  induction h with
  | nil => exact .nil
  | cons k h t ih =>
    rw [List.all_cons, Bool.and_eq_true, Bool.and_eq_true] at e
    exact .cons k (h.low e.1.2) (ih e.2)
theorem EntT.under {v u} (h : EntT K ρ n H v u) : (v.all fun p => p.1.under n && p.2.under n) = true := by
  induction h with
  | nil => rfl
  | cons k h t ih => rw [List.all_cons, h.under, ih]; unfold Val.under; rw [k.under]; rfl
theorem EntT.low {v u} (h : EntT K ρ N H v u) (e : (v.all fun p => p.1.under n && p.2.under n) = true) : EntT K ρ n H v u := by
  induction h with
  | nil => exact .nil
  | cons k h t ih =>
    rw [List.all_cons, Bool.and_eq_true, Bool.and_eq_true] at e
    exact .cons k (h.low e.1.2) (ih e.2)
theorem RepO.under {W : Wd} {o u} (h : RepO W ρ n H o u) : o.under n = true := by
  cases h with
  | list h => unfold Ob.under; exact h.under
  | inst h _ _ => unfold Ob.under; exact h.under
  | dK h => unfold Ob.under; exact h.under
  | dT h => unfold Ob.under; exact h.under
  | fd h => unfold Ob.under; exact h.under
theorem RepO.low {W : Wd} {o u} (h : RepO W ρ N H o u) (e : o.under n = true) : RepO W ρ n H o u := by
  cases h with
  | list h => unfold Ob.under at e; exact .list (h.low e)
  | inst h a b => unfold Ob.under at e; exact .inst (h.low e) a b
  | dK h => unfold Ob.under at e; exact .dK (h.low e)
  | dT h => unfold Ob.under at e; exact .dT (h.low e)
  | fd h => unfold Ob.under at e; exact .fd (h.low e)
end
section
variable {W : Wd} {ρ ρ' : Nat → Addr} {m0 m : Mem} {H H' : Hp}
theorem Sim.cut (s0 : Sim W ρ m0 H) (s : Sim W ρ' m H') (hl : m0.length ≤ m.length) (h : ∀ (i : Nat) (o : Ob), (m.take m0.length)[i]? = some o → m0[i]? = some o ∨ o.under m0.length = true) : Sim W ρ' (m.take m0.length) H' := by
  have el : (m.take m0.length).length = m0.length := by rw [List.length_take]; omega
  refine ⟨fun i j hi hj e => s.inj i j (by omega) (by omega) e, fun i o q => ?_⟩
  have u : o.under m0.length = true := by
    rcases h i o q with z | z
    · obtain ⟨w, _, r⟩ := s0.obj i o z
      exact r.under
    · exact z
  rw [List.getElem?_take] at q
  split at q
  · obtain ⟨w, a, r⟩ := s.obj i o q
    exact ⟨w, a, by rw [el]; exact r.low u⟩
  · cases q
theorem Ext.cut {K : PySem.W.Frag} {n n' : Nat} (x : Ext K ρ n H ρ' n' H') : Ext K ρ n H ρ' n H' :=
  ⟨Nat.le_refl _, x.agree, x.tups, x.tupt, x.frame, x.keep, fun i h1 h2 => absurd h2 (Nat.not_lt.mpr h1)⟩
theorem gc_ok {wx : WX} {σ : L2.St} {r : Res Val} {Q : VK} (s0 : Sim W ρ m0 H) (p : Post W wx σ ρ m0.length H (gc m0 r) Q) : Post W wx σ ρ m0.length H r Q := by
  cases r with
  | err => exact p
  | exc c fs m => exact p
  | ok v m =>
    intro ρ' H' u x s r
    unfold gc at p
    simp only at p
    split at p
    · rename_i h
      obtain ⟨hl, hk⟩ := h
      have el : (m.take m0.length).length = m0.length := by rw [List.length_take]; omega
      split at p
      · rename_i hu
        exact p ρ' H' u (by rw [el]; exact x.cut) (s0.cut s hl hk) (by rw [el]; exact r.low hu)
      · split at p
        · rename_i k hv
          split at p
          · rename_i o ek
            split at p
            · rename_i ho
              obtain ⟨ho, hnk⟩ := ho
              have hkm : k < m.length := (List.getElem?_eq_some_iff.mp ek).1
              have sc := s0.cut s hl hk
              obtain ⟨w, hw, rw'⟩ := s.obj k o ek
              have el2 : (m.take m0.length ++ [o]).length = m0.length + 1 := by rw [List.length_append, el]; rfl
              have eu : u = .ref (ρ' k) := by cases r; rfl
              subst eu
              let ρ2 : Nat → Addr := fun i => if i = m0.length then ρ' k else ρ' i
              have a2 : ∀ i, i < m0.length → ρ2 i = ρ' i := fun i hi => if_neg (Nat.ne_of_lt hi)
              have a3 : ρ2 m0.length = ρ' k := if_pos rfl
              have x2 : Ext W.K ρ m0.length H ρ2 (m0.length + 1) H' := ⟨Nat.le_succ _, fun i hi => (a2 i hi).trans (x.agree i hi), x.tups, x.tupt, x.frame, x.keep, fun i h1 h2 => by
                have e : i = m0.length := by omega
                subst e
                rw [a3]; exact x.fresh k hnk hkm⟩
              have xi : Ext W.K ρ' m0.length H' ρ2 (m0.length) H' := ⟨Nat.le_refl _, a2, fun _ _ z => z, fun _ _ _ z => z, fun _ _ z _ => z, fun _ z => z, fun i h1 h2 => absurd h2 (Nat.not_lt.mpr h1)⟩
              have up : ∀ {a b}, RepO W ρ2 m0.length H' a b → RepO W ρ2 (m0.length + 1) H' a b := fun {a b} q => q.low (Ob.under_mono (Nat.le_succ _) _ q.under)
              refine p ρ2 H' (.ref (ρ' k)) (by rw [el2]; exact x2) ⟨fun i j hi hj e => ?_, fun i ob q => ?_⟩ ?_
              · rw [el2] at hi hj
                by_cases h1 : i = m0.length
                · by_cases h2 : j = m0.length
                  · omega
                  · exfalso
                    rw [h1, a3, a2 j (by omega)] at e
                    have := s.inj k j hkm (by omega) e
                    omega
                · by_cases h2 : j = m0.length
                  · exfalso
                    rw [h2, a3, a2 i (by omega)] at e
                    have := s.inj i k (by omega) hkm e
                    omega
                  · rw [a2 i (by omega), a2 j (by omega)] at e
                    exact s.inj i j (by omega) (by omega) e
              · rw [el2]
                by_cases h1 : i < m0.length
                · rw [List.getElem?_append_left (by rw [el]; exact h1)] at q
                  obtain ⟨z, b1, b2⟩ := sc.obj i ob q
                  rw [el] at b2
                  exact ⟨z, by rw [a2 i h1]; exact b1, up (b2.ext xi)⟩
                · have h2 : i = m0.length := by
                    have := (List.getElem?_eq_some_iff.mp q).1
                    omega
                  subst h2
                  rw [List.getElem?_append_right (by rw [el]; exact Nat.le_refl _), el, Nat.sub_self] at q
                  cases q
                  exact ⟨w, by rw [a3]; exact hw, up ((rw'.low ho).ext xi)⟩
              · rw [← a3, el2]
                exact .ref (Nat.lt_succ_self _)
            · exact p ρ' H' u x s r
          · exact p ρ' H' u x s r
        · exact p ρ' H' u x s r
    · exact p ρ' H' u x s r
end
end Py

namespace Py
open PySem PySem.Spec PyProof.Rows L2

section
variable {X : Cx} {W : Wd} {wx : WX} {a b c e : Expr} {fa fb fc f : Loc → Mem → Res Val} {pos : Pos}

/-- an expression and its test -/
structure SB (X : Cx) (W : Wd) (wx : WX) (e : Expr) (f : Loc → Mem → Res Val) : Prop where
  ve : SE X W wx e f
  te : ST X W wx e f

theorem SB.plain (hW : W.K = X.K) (h : SE X W wx e f) (he : ∀ whole, isTrue e X.env whole = (do let v ← whole; standAt e.pos; holding [v] (truthy v))) : SB X W wx e f := by
  refine ⟨h, ?_⟩
  obtain ⟨t, pe, q⟩ := h.ex
  refine ⟨_, pt_truth pe he, fun σ H ρ l m Q ss s p => ?_⟩
  refine q σ H ρ l m _ ss s ?_
  cases r : f l m with
  | ok v m1 =>
    rw [r] at p
    obtain ⟨k, e1, p⟩ := p
    intro ρ' H' u x s' r'
    exact ⟨k, truth_of hW s' r' e1, p ρ' H' x s'⟩
  | exc _ _ _ => rw [r] at p; exact p
  | err => rw [r] at p; exact p

theorem se_of {t : TE} {v : Val} {u : V} (h : PE X e t) (ht : ∀ σ H Q, Q u H → t σ H Q) (r : ∀ ρ n H, Rep W.K ρ n H v u) : SE X W wx e (fun _ m => .ok v m) :=
  ⟨t, h, fun σ H ρ l m Q ss s p => ht σ H Q (p ρ H u Ext.refl s (r _ _ _))⟩
theorem se_var {i : Nat} {x : PySem.Str} (hN : X.N[i]? = some x) (hv : Vis X.env.scope x) (hd : (x == ("__debug__" : PySem.Str)) = false) (hc : (x == ("__classdict__" : PySem.Str)) = false) :
    SE X W wx (.Name x pos) (fun l m => match l[i]? with
      | some (some v) => .ok v m
      | _ => .err) := by
  refine ⟨_, pe_var hN hv hd hc, fun σ H ρ l m Q ss s p => ?_⟩
  split at p
  · rename_i v e
    obtain ⟨u, e1, r⟩ := ss.get i v e
    exact ⟨u, e1, p ρ H u Ext.refl s r⟩
  · exact p.elim

theorem se_bin (hW : W.K = X.K) (o : BOp) (ha : SE X W wx a fa) (hb : SE X W wx b fb) :
    SE X W wx (.BinOp a (opOf o) b pos) (fun l m => (fa l m).bind fun x m1 => (fb l m1).bind fun y m2 => binop o x y m2) := by
  obtain ⟨ta, pa, qa⟩ := ha.ex
  obtain ⟨tb, pb, qb⟩ := hb.ex
  refine ⟨_, pe_op (op_bin hW o) pa pb, fun σ H ρ l m Q ss s p => ?_⟩
  refine qa σ H ρ l m _ ss s ((Post.bind ss p).mono fun u H1 ⟨x, m1, ρ1, A, p1⟩ => ?_)
  refine qb σ H1 ρ1 l m1 _ A.ss A.sim ((Post.bind A.ss p1).mono fun w H2 ⟨y, m2, ρ2, B, p2⟩ => ?_)
  exact ⟨ρ2, m2, x, y, B.sim, A.rep.ext B.ext, B.rep, p2.nx fun _ _ _ => binop_nx⟩
theorem se_neg (ha : SE X W wx a fa) : SE X W wx (.UnaryOp .USub a pos) (fun l m => (fa l m).bind fun x m1 => negop x m1) := by
  obtain ⟨ta, pa, qa⟩ := ha.ex
  refine ⟨_, pe_un un_neg pa, fun σ H ρ l m Q ss s p => ?_⟩
  refine qa σ H ρ l m _ ss s ((Post.bind ss p).mono fun u H1 ⟨x, m1, ρ1, A, p1⟩ => ?_)
  have p2 := p1.nx fun _ _ _ => negop_nx
  have r := A.rep
  cases r with
  | int i => exact ⟨i, rfl, A.sim.one p2 (.int _)⟩
  | _ => exact (show False from p2).elim

/-- a comparison's run -/
def cmpR (o : COp) (x y : Val) (m : Mem) : Res Val := match cmpop o x y m with
  | some c => .ok (.bool c) m
  | none => .err
theorem sb_cmp (hW : W.K = X.K) (hu : X.A.units + 65 < cLine) (o : COp) (hm : behindInMarks (copOf o) b = false) (ha : SE X W wx a fa) (hb : SE X W wx b fb) :
    SB X W wx (.Compare a [copOf o] [b] pos) (fun l m => (fa l m).bind fun x m1 => (fb l m1).bind fun y m2 => cmpR o x y m2) := by
  obtain ⟨ta, pa, qa⟩ := ha.ex
  obtain ⟨tb, pb, qb⟩ := hb.ex
  constructor
  · refine ⟨_, pe_cmpR (op_cmp hW hu o) pa pb hm, fun σ H ρ l m Q ss s p => ?_⟩
    refine qa σ H ρ l m _ ss s ((Post.bind ss p).mono fun u H1 ⟨x, m1, ρ1, A, p1⟩ => ?_)
    refine qb σ H1 ρ1 l m1 _ A.ss A.sim ((Post.bind A.ss p1).mono fun w H2 ⟨y, m2, ρ2, B, p2⟩ => ?_)
    unfold cmpR at p2
    split at p2
    · rename_i c ec
      exact ⟨ρ2, m2, x, y, c, B.sim, A.rep.ext B.ext, B.rep, ec, B.sim.one p2 (.bool c)⟩
    · exact p2.elim
  · refine ⟨_, pt_cmpR (op_cmp hW hu o) pa pb hm, fun σ H ρ l m Q ss s p => ?_⟩
    refine qa σ H ρ l m _ ss s ((Post.bindT ss p).mono fun u H1 ⟨x, m1, ρ1, A, p1⟩ => ?_)
    refine qb σ H1 ρ1 l m1 _ A.ss A.sim ((Post.bindT A.ss p1).mono fun w H2 ⟨y, m2, ρ2, B, p2⟩ => ?_)
    unfold cmpR at p2
    split at p2
    · rename_i c ec
      obtain ⟨k, e1, p3⟩ := p2
      cases e1
      exact ⟨ρ2, m2, x, y, c, B.sim, A.rep.ext B.ext, B.rep, ec, c, rfl, p3 ρ2 H2 Ext.refl B.sim⟩
    · exact p2.elim
def chainR (o p : COp) (x y : Val) (fc : Mem → Res Val) (m : Mem) : Res Val := match cmpop o x y m with
  | some true => (fc m).bind fun z m3 => cmpR p y z m3
  | some false => .ok (.bool false) m
  | none => .err
theorem sb_chain (hW : W.K = X.K) (hu : X.A.units + 65 < cLine) (o p : COp) (hm : lastMarks [copOf o, copOf p] [b, c] = false) (ha : SE X W wx a fa) (hb : SE X W wx b fb) (hc : SE X W wx c fc) :
    SB X W wx (.Compare a [copOf o, copOf p] [b, c] pos) (fun l m => (fa l m).bind fun x m1 => (fb l m1).bind fun y m2 => chainR o p x y (fc l) m2) := by
  obtain ⟨ta, pa, qa⟩ := ha.ex
  obtain ⟨tb, pb, qb⟩ := hb.ex
  obtain ⟨tc, pc, qc⟩ := hc.ex
  constructor
  · refine ⟨_, pe_chain (op_cmp hW hu o) (op_cmp hW hu p) pa pb pc hm, fun σ H ρ l m Q ss s p => ?_⟩
    refine qa σ H ρ l m _ ss s ((Post.bind ss p).mono fun u H1 ⟨x, m1, ρ1, A, p1⟩ => ?_)
    refine qb σ H1 ρ1 l m1 _ A.ss A.sim ((Post.bind A.ss p1).mono fun w H2 ⟨y, m2, ρ2, B, p2⟩ => ?_)
    unfold chainR at p2
    split at p2
    · rename_i ec
      refine ⟨ρ2, m2, x, y, true, B.sim, A.rep.ext B.ext, B.rep, ec, true, rfl, ?_⟩
      rw [if_pos rfl]
      refine qc σ H2 ρ2 l m2 _ B.ss B.sim ((Post.bind B.ss p2).mono fun w3 H3 ⟨z, m3, ρ3, C, p3⟩ => ?_)
      unfold cmpR at p3
      split at p3
      · rename_i d ed
        exact ⟨ρ3, m3, y, z, d, C.sim, B.rep.ext C.ext, C.rep, ed, C.sim.one p3 (.bool d)⟩
      · exact p3.elim
    · rename_i ec
      refine ⟨ρ2, m2, x, y, false, B.sim, A.rep.ext B.ext, B.rep, ec, false, rfl, ?_⟩
      rw [if_neg (by decide)]
      exact B.sim.one p2 (.bool false)
    · exact p2.elim
  · refine ⟨_, pt_chain (op_cmp hW hu o) (op_cmp hW hu p) pa pb pc hm, fun σ H ρ l m Q ss s p => ?_⟩
    refine qa σ H ρ l m _ ss s ((Post.bindT ss p).mono fun u H1 ⟨x, m1, ρ1, A, p1⟩ => ?_)
    refine qb σ H1 ρ1 l m1 _ A.ss A.sim ((Post.bindT A.ss p1).mono fun w H2 ⟨y, m2, ρ2, B, p2⟩ => ?_)
    unfold chainR at p2
    split at p2
    · rename_i ec
      refine ⟨ρ2, m2, x, y, true, B.sim, A.rep.ext B.ext, B.rep, ec, true, rfl, ?_⟩
      rw [if_pos rfl]
      refine qc σ H2 ρ2 l m2 _ B.ss B.sim ((Post.bindT B.ss p2).mono fun w3 H3 ⟨z, m3, ρ3, C, p3⟩ => ?_)
      unfold cmpR at p3
      split at p3
      · rename_i d ed
        obtain ⟨k, e1, p4⟩ := p3
        cases e1
        exact ⟨ρ3, m3, y, z, d, C.sim, B.rep.ext C.ext, C.rep, ed, d, rfl, p4 ρ3 H3 Ext.refl C.sim⟩
      · exact p3.elim
    · rename_i ec
      obtain ⟨k, e1, p4⟩ := p2
      cases e1
      refine ⟨ρ2, m2, x, y, false, B.sim, A.rep.ext B.ext, B.rep, ec, false, rfl, ?_⟩
      rw [if_neg (by decide)]
      exact ⟨false, rfl, p4 ρ2 H2 Ext.refl B.sim⟩
    · exact p2.elim

/-! and, or, not -/
def andR (x : Val) (fb : Mem → Res Val) (m : Mem) : Res Val := match x with
  | .bool true => fb m
  | .bool false => .ok (.bool false) m
  | _ => .err
def orR (x : Val) (fb : Mem → Res Val) (m : Mem) : Res Val := match x with
  | .bool false => fb m
  | .bool true => .ok (.bool true) m
  | _ => .err
def notR (x : Val) (m : Mem) : Res Val := match x with
  | .bool b => .ok (.bool (!b)) m
  | _ => .err
/-- an and's or or's rest: as a value and as a test whatever its whole is -/
structure SW (X : Cx) (W : Wd) (wx : WX) (e : Expr) (f : Loc → Mem → Res Val) : Prop where
  ve : SE X W wx e f
  te : ∃ t : TT, PW X e t ∧ ∀ (σ : L2.St) (H : Hp) (ρ : Nat → Addr) (l : Loc) (m : Mem) (Q : Bool → Hp → Prop), SimS W.K ρ m.length H l σ → Sim W ρ m H → PostT W wx σ ρ m.length H (f l m) Q → t σ H Q
theorem SW.sb (h : SW X W wx e f) : SB X W wx e f := ⟨h.ve, let ⟨t, p, q⟩ := h.te; ⟨t, p.pt, q⟩⟩
theorem sw_and1 (h : SB X W wx a fa) : SW X W wx (.BoolOp .And [a] pos) fa := by
  obtain ⟨ta, pa, qa⟩ := h.ve.ex
  obtain ⟨tt, pt, qt⟩ := h.te.ex
  exact ⟨⟨ta, pe_one pa, qa⟩, tt, pw_and1 pt, qt⟩
theorem sw_or1 (h : SB X W wx a fa) : SW X W wx (.BoolOp .Or [a] pos) fa := by
  obtain ⟨ta, pa, qa⟩ := h.ve.ex
  obtain ⟨tt, pt, qt⟩ := h.te.ex
  exact ⟨⟨ta, pe_one pa, qa⟩, tt, pw_or1 pt, qt⟩
theorem boolT {ρ : Nat → Addr} {n : Nat} {H : Hp} {σ : L2.St} {l : Loc} {r : Res Val} {g : Val → Mem → Res Val} {Q Q' : Bool → Hp → Prop} (ss : SimS W.K ρ n H l σ) (p : PostT W wx σ ρ n H (r.bind g) Q)
    (hb : ∀ v m, g v m ≠ .err → ∃ b, v = .bool b) (h : ∀ b m1 ρ1 H1, SimS W.K ρ1 m1.length H1 l σ → Sim W ρ1 m1 H1 → PostT W wx σ ρ1 m1.length H1 (g (.bool b) m1) Q → Q' b H1) : PostT W wx σ ρ n H r Q' := by
  cases r with
  | ok v m =>
    have p' : PostT W wx σ ρ n H (g v m) Q := p
    have ne : g v m ≠ .err := fun e => by rw [e] at p'; exact p'
    obtain ⟨b, e⟩ := hb v m ne
    subst e
    exact ⟨b, rfl, fun ρ' H' x s => h b m ρ' H' (ss.ext x) s (p'.ext x)⟩
  | exc _ _ _ => exact p
  | err => exact p
theorem sw_and {rest : List Expr} (ha : SB X W wx a fa) (hb : SW X W wx (.BoolOp .And (b :: rest) pos) fb) :
    SW X W wx (.BoolOp .And (a :: b :: rest) pos) (fun l m => (fa l m).bind fun x m1 => andR x (fb l) m1) := by
  obtain ⟨ta, pa, qa⟩ := ha.ve.ex
  obtain ⟨tt, pt, qt⟩ := ha.te.ex
  obtain ⟨tb, pb, qb⟩ := hb.ve.ex
  obtain ⟨tw, pw, qw⟩ := hb.te
  refine ⟨⟨_, pe_and pa pb, fun σ H ρ l m Q ss s p => ?_⟩, _, pw_and pt pw, fun σ H ρ l m Q ss s p => ?_⟩
  · refine qa σ H ρ l m _ ss s ((Post.bind ss p).mono fun u H1 ⟨x, m1, ρ1, A, p1⟩ => ?_)
    unfold andR at p1
    have r := A.rep
    split at p1
    · cases r
      exact ⟨true, rfl, by rw [if_pos rfl]; exact qb σ H1 ρ1 l m1 _ A.ss A.sim p1⟩
    · cases r
      exact ⟨false, rfl, by rw [if_neg (by decide)]; exact A.sim.one p1 (.bool false)⟩
    · exact p1.elim
  · refine qt σ H ρ l m _ ss s (boolT ss p (fun v m ne => ?_) fun b m1 ρ1 H1 ss1 s1 p1 => ?_)
    · unfold andR at ne
      split at ne
      · exact ⟨_, rfl⟩
      · exact ⟨_, rfl⟩
      · exact absurd rfl ne
    · cases b with
      | true => rw [if_pos rfl]; exact qw σ H1 ρ1 l m1 _ ss1 s1 p1
      | false =>
        rw [if_neg (by decide)]
        obtain ⟨k, e1, p2⟩ := p1
        cases e1
        exact p2 ρ1 H1 Ext.refl s1
theorem sw_or {rest : List Expr} (ha : SB X W wx a fa) (hb : SW X W wx (.BoolOp .Or (b :: rest) pos) fb) :
    SW X W wx (.BoolOp .Or (a :: b :: rest) pos) (fun l m => (fa l m).bind fun x m1 => orR x (fb l) m1) := by
  obtain ⟨ta, pa, qa⟩ := ha.ve.ex
  obtain ⟨tt, pt, qt⟩ := ha.te.ex
  obtain ⟨tb, pb, qb⟩ := hb.ve.ex
  obtain ⟨tw, pw, qw⟩ := hb.te
  refine ⟨⟨_, pe_or pa pb, fun σ H ρ l m Q ss s p => ?_⟩, _, pw_or pt pw, fun σ H ρ l m Q ss s p => ?_⟩
  · refine qa σ H ρ l m _ ss s ((Post.bind ss p).mono fun u H1 ⟨x, m1, ρ1, A, p1⟩ => ?_)
    unfold orR at p1
    have r := A.rep
    split at p1
    · cases r
      exact ⟨false, rfl, by rw [if_neg (by decide)]; exact qb σ H1 ρ1 l m1 _ A.ss A.sim p1⟩
    · cases r
      exact ⟨true, rfl, by rw [if_pos rfl]; exact A.sim.one p1 (.bool true)⟩
    · exact p1.elim
  · refine qt σ H ρ l m _ ss s (boolT ss p (fun v m ne => ?_) fun b m1 ρ1 H1 ss1 s1 p1 => ?_)
    · unfold orR at ne
      split at ne
      · exact ⟨_, rfl⟩
      · exact ⟨_, rfl⟩
      · exact absurd rfl ne
    · cases b with
      | false => rw [if_neg (by decide)]; exact qw σ H1 ρ1 l m1 _ ss1 s1 p1
      | true =>
        rw [if_pos rfl]
        obtain ⟨k, e1, p2⟩ := p1
        cases e1
        exact p2 ρ1 H1 Ext.refl s1
theorem sb_not (ha : SB X W wx a fa) : SB X W wx (.UnaryOp .Not a pos) (fun l m => (fa l m).bind fun x m1 => notR x m1) := by
  obtain ⟨ta, pa, qa⟩ := ha.ve.ex
  obtain ⟨tt, pt, qt⟩ := ha.te.ex
  refine ⟨⟨_, pe_not pa, fun σ H ρ l m Q ss s p => ?_⟩, ⟨_, pt_not pt, fun σ H ρ l m Q ss s p => ?_⟩⟩
  · refine qa σ H ρ l m _ ss s ((Post.bind ss p).mono fun u H1 ⟨x, m1, ρ1, A, p1⟩ => ?_)
    unfold notR at p1
    have r := A.rep
    split at p1
    · cases r
      exact ⟨_, rfl, A.sim.one p1 (.bool _)⟩
    · exact p1.elim
  · refine qt σ H ρ l m _ ss s (boolT ss p (fun v m ne => ?_) fun b m1 ρ1 H1 ss1 s1 p1 => ?_)
    · unfold notR at ne
      split at ne
      · exact ⟨_, rfl⟩
      · exact absurd rfl ne
    · obtain ⟨k, e1, p2⟩ := p1
      cases e1
      exact p2 ρ1 H1 Ext.refl s1
theorem isTrue_ifExp_T {t1 t2 : TT} {tc : TT} (hc : PT X c tc) (ha : PT X a t1) (hb : PT X b t2) : PT X (.IfExp c a b pos) (fun σ H Q => tc σ H fun k H1 => if k = true then t1 σ H1 Q else t2 σ H1 Q) := by
  refine ⟨fun pins s σ H Q I h => ?_⟩
  show wpAny _ _ (do if ← isTrue c X.env (eval c X.env) then isTrue a X.env (eval a X.env) else isTrue b X.env (eval b X.env)) _ _ _
  refine wpAny_bind (thn (hc.run pins s σ H _ I h) fun d s1 ⟨H1, I1, q1⟩ => ?_)
  cases d with
  | true => exact ha.run pins s1 σ H1 Q I1 q1
  | false => exact hb.run pins s1 σ H1 Q I1 q1
def iteR (x : Val) (fa fb : Mem → Res Val) (m : Mem) : Res Val := match truth m x with
  | some true => fa m
  | some false => fb m
  | none => .err
theorem iteP {ρ : Nat → Addr} {n : Nat} {H : Hp} {σ : L2.St} {l : Loc} {r : Res Val} {g h : Mem → Res Val} {Q : VK} {Q' : Bool → Hp → Prop} (ss : SimS W.K ρ n H l σ) (p : Post W wx σ ρ n H (r.bind fun x m1 => iteR x g h m1) Q)
    (k : ∀ b m1 ρ1 H1, SimS W.K ρ1 m1.length H1 l σ → Sim W ρ1 m1 H1 → Post W wx σ ρ1 m1.length H1 (if b = true then g m1 else h m1) Q → Q' b H1) : PostT W wx σ ρ n H r Q' := by
  cases r with
  | ok v m =>
    have p' : Post W wx σ ρ n H (iteR v g h m) Q := p
    unfold iteR at p'
    split at p'
    · rename_i e; exact ⟨true, e, fun ρ' H' x s => k true m ρ' H' (ss.ext x) s (by rw [if_pos rfl]; exact p'.ext x)⟩
    · rename_i e; exact ⟨false, e, fun ρ' H' x s => k false m ρ' H' (ss.ext x) s (by rw [if_neg (by decide)]; exact p'.ext x)⟩
    · exact p'.elim
  | exc _ _ _ => exact p
  | err => exact p
theorem iteT' {ρ : Nat → Addr} {n : Nat} {H : Hp} {σ : L2.St} {l : Loc} {r : Res Val} {g h : Mem → Res Val} {Q : Bool → Hp → Prop} {Q' : Bool → Hp → Prop} (ss : SimS W.K ρ n H l σ) (p : PostT W wx σ ρ n H (r.bind fun x m1 => iteR x g h m1) Q)
    (k : ∀ b m1 ρ1 H1, SimS W.K ρ1 m1.length H1 l σ → Sim W ρ1 m1 H1 → PostT W wx σ ρ1 m1.length H1 (if b = true then g m1 else h m1) Q → Q' b H1) : PostT W wx σ ρ n H r Q' := by
  cases r with
  | ok v m =>
    have p' : PostT W wx σ ρ n H (iteR v g h m) Q := p
    unfold iteR at p'
    split at p'
    · rename_i e; exact ⟨true, e, fun ρ' H' x s => k true m ρ' H' (ss.ext x) s (by rw [if_pos rfl]; exact p'.ext x)⟩
    · rename_i e; exact ⟨false, e, fun ρ' H' x s => k false m ρ' H' (ss.ext x) s (by rw [if_neg (by decide)]; exact p'.ext x)⟩
    · exact p'.elim
  | exc _ _ _ => exact p
  | err => exact p
theorem sb_ite (hc : SB X W wx c fc) (ha : SB X W wx a fa) (hb : SB X W wx b fb) :
    SB X W wx (.IfExp c a b pos) (fun l m => (fc l m).bind fun x m1 => iteR x (fa l) (fb l) m1) := by
  obtain ⟨tc, pc, qc⟩ := hc.te.ex
  obtain ⟨ta, pa, qa⟩ := ha.ve.ex
  obtain ⟨tb, pb, qb⟩ := hb.ve.ex
  obtain ⟨ua, va, wa⟩ := ha.te.ex
  obtain ⟨ub, vb, wb⟩ := hb.te.ex
  refine ⟨⟨_, pe_ifExp pc pa pb, fun σ H ρ l m Q ss s p => ?_⟩, ⟨_, isTrue_ifExp_T pc va vb, fun σ H ρ l m Q ss s p => ?_⟩⟩
  · refine qc σ H ρ l m _ ss s (iteP ss p fun b m1 ρ1 H1 ss1 s1 p1 => ?_)
    cases b with
    | true => exact qa σ H1 ρ1 l m1 _ ss1 s1 p1
    | false => exact qb σ H1 ρ1 l m1 _ ss1 s1 p1
  · refine qc σ H ρ l m _ ss s (iteT' ss p fun b m1 ρ1 H1 ss1 s1 p1 => ?_)
    cases b with
    | true => exact wa σ H1 ρ1 l m1 _ ss1 s1 p1
    | false => exact wb σ H1 ρ1 l m1 _ ss1 s1 p1

/-! ### lists of expressions -/
theorem sa_nil : SA X W wx [] (fun _ m => .ok [] m) := ⟨_, pa_nil, fun σ H ρ l m Q ss s p => p ρ H [] Ext.refl s .nil⟩
theorem sa_cons {es : List Expr} {fr : Loc → Mem → Res (List Val)} (ha : SE X W wx a fa) (hr : SA X W wx es fr) (hs : starEach (a :: es) X.env = (false, eval a X.env) :: starEach es X.env) :
    SA X W wx (a :: es) (fun l m => (fa l m).bind fun x m1 => (fr l m1).bind fun xs m2 => .ok (x :: xs) m2) := by
  obtain ⟨ta, pa, qa⟩ := ha.ex
  obtain ⟨tr, pr, qr⟩ := hr.ex
  refine ⟨_, pa_cons pa pr hs, fun σ H ρ l m Q ss s p => ?_⟩
  refine qa σ H ρ l m _ ss s ((Post.bindL ss p).mono fun u H1 ⟨x, m1, ρ1, A, p1⟩ => ?_)
  refine qr σ H1 ρ1 l m1 _ A.ss A.sim ((PostL.bindL A.ss p1).mono fun us H2 ⟨xs, m2, ρ2, B, p2⟩ => ?_)
  exact p2 ρ2 H2 _ Ext.refl B.sim (.cons (A.rep.ext B.ext) B.rep)
theorem se_tup {es : List Expr} {k : Nat} {fr : Loc → Mem → Res (List Val)} (hr : SA X W wx es fr) : SE X W wx (.Tuple es k pos) (fun l m => (fr l m).bind fun vs m1 => if vs.length ≤ SZ then .ok (.tup vs) m1 else .err) := by
  obtain ⟨tr, pr, qr⟩ := hr.ex
  refine ⟨_, pe_tup pr, fun σ H ρ l m Q ss s p => ?_⟩
  refine qr σ H ρ l m _ ss s ((PostL.bind ss p).mono fun us H2 ⟨xs, m2, ρ2, B, p2⟩ => ?_)
  split at p2
  · rename_i h
    exact ⟨by rw [← B.rep.length, ← sz_line]; exact h, B.sim.tupn p2 B.rep⟩
  · exact p2.elim
theorem se_lst {es : List Expr} {fr : Loc → Mem → Res (List Val)} (hr : SA X W wx es fr) : SE X W wx (.List es pos) (fun l m => (fr l m).bind fun vs m1 => if vs.length ≤ SZ then .ok (.ref m1.length) (m1 ++ [.list vs]) else .err) := by
  obtain ⟨tr, pr, qr⟩ := hr.ex
  refine ⟨_, pe_lst pr, fun σ H ρ l m Q ss s p => ?_⟩
  refine qr σ H ρ l m _ ss s ((PostL.bind ss p).mono fun us H2 ⟨xs, m2, ρ2, B, p2⟩ => ?_)
  split at p2
  · rename_i h
    exact ⟨by rw [← B.rep.length, ← sz_line]; exact h, B.sim.lst p2 B.rep⟩
  · exact p2.elim

/-! ### subscripts, slices -/
theorem se_idx (hW : W.K = X.K) (ha : SE X W wx a fa) (hb : SE X W wx b fb) (hs : PlainIx b) :
    SE X W wx (.Subscript a b pos) (fun l m => (fa l m).bind fun x m1 => (fb l m1).bind fun y m2 => match idxop m2 x y with
      | some v => .ok v m2
      | none => .err) := by
  obtain ⟨ta, pa, qa⟩ := ha.ex
  obtain ⟨tb, pb, qb⟩ := hb.ex
  refine ⟨_, pe_ix (ix_any hW) pa pb hs, fun σ H ρ l m Q ss s p => ?_⟩
  refine qa σ H ρ l m _ ss s ((Post.bind ss p).mono fun u H1 ⟨x, m1, ρ1, A, p1⟩ => ?_)
  refine qb σ H1 ρ1 l m1 _ A.ss A.sim ((Post.bind A.ss p1).mono fun w H2 ⟨y, m2, ρ2, B, p2⟩ => ?_)
  split at p2
  · rename_i v ev
    exact ⟨ρ2, m2, x, y, v, B.sim, A.rep.ext B.ext, B.rep, ev, fun z rz => B.sim.one p2 rz⟩
  · exact p2.elim
end
end Py

namespace Py
open PySem PySem.Spec PyProof.Rows L2

section
variable {X : Cx} {W : Wd} {wx : WX} {a b c e o lo hi : Expr} {es : List Expr} {fa fb fc f fo fl fh : Loc → Mem → Res Val} {fr : Loc → Mem → Res (List Val)} {pos p2 : Pos}

/-! ### slices -/
theorem intR_post {σ : L2.St} {ρ : Nat → Addr} {n : Nat} {H : Hp} {v : Val} {m : Mem} {g : Int → Res Val} {Q : VK} (p : Post W wx σ ρ n H (intR v m g) Q) : ∃ i, v = .int i ∧ Post W wx σ ρ n H (g i) Q := by
  unfold intR at p
  split at p
  · exact ⟨_, rfl, p⟩
  · exact p.elim
theorem int_of {K : PySem.W.Frag} {ρ : Nat → Addr} {n : Nat} {H : Hp} {i : Int} {u : V} (r : Rep K ρ n H (.int i) u) : u = .int i := by cases r; rfl
theorem se_sliceB (hW : W.K = X.K) (ha : SE X W wx a fa) (hl : SE X W wx lo fl) (hh : SE X W wx hi fh) :
    SE X W wx (.Subscript a (.Slice (some lo) (some hi) none p2) pos) (fun l m => (fa l m).bind fun x m1 => (fl l m1).bind fun p m2 => intR p m2 fun i => (fh l m2).bind fun q m3 => intR q m3 fun j => sliceop m3 x (some i) (some j)) := by
  obtain ⟨ta, pa, qa⟩ := ha.ex
  obtain ⟨tl, pl, ql⟩ := hl.ex
  obtain ⟨th, ph, qh⟩ := hh.ex
  refine ⟨_, pe_slice (sl_any hW) pa (po_some pl) (po_some ph), fun σ H ρ l m Q ss s p => ?_⟩
  refine qa σ H ρ l m _ ss s ((Post.bind ss p).mono fun u H1 ⟨x, m1, ρ1, A, p1⟩ => ?_)
  refine ql σ H1 ρ1 l m1 _ A.ss A.sim ((Post.bind A.ss p1).mono fun w H2 ⟨y, m2, ρ2, B, p2⟩ => ?_)
  obtain ⟨i, e1, p2⟩ := intR_post p2
  subst e1
  refine ⟨i, int_of B.rep, ?_⟩
  refine qh σ H2 ρ2 l m2 _ B.ss B.sim ((Post.bind B.ss p2).mono fun z H3 ⟨y3, m3, ρ3, C, p3⟩ => ?_)
  obtain ⟨j, e3, p3⟩ := intR_post p3
  subst e3
  exact ⟨j, int_of C.rep, ρ3, m3, x, C.sim, (A.rep.ext B.ext).ext C.ext, p3.nx fun _ _ _ => sliceop_nx⟩
theorem se_sliceL (hW : W.K = X.K) (ha : SE X W wx a fa) (hl : SE X W wx lo fl) :
    SE X W wx (.Subscript a (.Slice (some lo) none none p2) pos) (fun l m => (fa l m).bind fun x m1 => (fl l m1).bind fun p m2 => intR p m2 fun i => sliceop m2 x (some i) none) := by
  obtain ⟨ta, pa, qa⟩ := ha.ex
  obtain ⟨tl, pl, ql⟩ := hl.ex
  refine ⟨_, pe_slice (sl_any hW) pa (po_some pl) po_none, fun σ H ρ l m Q ss s p => ?_⟩
  refine qa σ H ρ l m _ ss s ((Post.bind ss p).mono fun u H1 ⟨x, m1, ρ1, A, p1⟩ => ?_)
  refine ql σ H1 ρ1 l m1 _ A.ss A.sim ((Post.bind A.ss p1).mono fun w H2 ⟨y, m2, ρ2, B, p2⟩ => ?_)
  obtain ⟨i, e1, p2⟩ := intR_post p2
  subst e1
  exact ⟨i, int_of B.rep, ρ2, m2, x, B.sim, A.rep.ext B.ext, p2.nx fun _ _ _ => sliceop_nx⟩
theorem se_sliceH (hW : W.K = X.K) (ha : SE X W wx a fa) (hh : SE X W wx hi fh) :
    SE X W wx (.Subscript a (.Slice none (some hi) none p2) pos) (fun l m => (fa l m).bind fun x m1 => (fh l m1).bind fun q m3 => intR q m3 fun j => sliceop m3 x none (some j)) := by
  obtain ⟨ta, pa, qa⟩ := ha.ex
  obtain ⟨th, ph, qh⟩ := hh.ex
  refine ⟨_, pe_slice (sl_any hW) pa po_none (po_some ph), fun σ H ρ l m Q ss s p => ?_⟩
  refine qa σ H ρ l m _ ss s ((Post.bind ss p).mono fun u H1 ⟨x, m1, ρ1, A, p1⟩ => ?_)
  refine qh σ H1 ρ1 l m1 _ A.ss A.sim ((Post.bind A.ss p1).mono fun w H2 ⟨y, m2, ρ2, B, p2⟩ => ?_)
  obtain ⟨i, e1, p2⟩ := intR_post p2
  subst e1
  exact ⟨i, int_of B.rep, ρ2, m2, x, B.sim, A.rep.ext B.ext, p2.nx fun _ _ _ => sliceop_nx⟩

/-! ### attributes -/
theorem Sim.inst {ρ : Nat → Addr} {m : Mem} {H : Hp} {k : Nat} {c0 : PySem.Str} {fs : List (PySem.Str × Val)} (s : Sim W ρ m H) (h : m[k]? = some (.inst c0 fs)) :
    ∃ dx us, H (ρ k) = some (.ins (W.cad c0) dx us) ∧ FldR W.K ρ m.length H fs us ∧ Cls W.K (W.cad c0) ∧ (∀ f u, us.lookup f = some u → NoAttr W.K (W.cad c0) f) := by
  obtain ⟨u, a, r⟩ := s.obj k _ h
  cases r with
  | inst h a' b => exact ⟨_, _, a, h, a', b⟩
theorem FldR.get {K : PySem.W.Frag} {ρ : Nat → Addr} {n : Nat} {H : Hp} {fs us} (h : FldR K ρ n H fs us) (f : PySem.Str) : (∀ v, fs.lookup f = some v → ∃ u, us.lookup f = some u ∧ Rep K ρ n H v u) ∧ (fs.lookup f = none → us.lookup f = none) := by
  induction h with
  | nil => exact ⟨fun v e => (nomatch e), fun _ => rfl⟩
  | @cons g x u xs ys h t ih =>
    by_cases e : f = g
    · subst e
      simp only [List.lookup, beq_self_eq_true]
      exact ⟨fun v e => by cases e; exact ⟨u, rfl, h⟩, fun e => by cases e⟩
    · have hb : (f == g) = false := beq_eq_false_iff_ne.mpr e
      simp only [List.lookup, hb]
      exact ih
theorem FldR.put {K : PySem.W.Frag} {ρ : Nat → Addr} {n : Nat} {H : Hp} {fs us} (h : FldR K ρ n H fs us) {f : PySem.Str} {v : Val} {u : V} (r : Rep K ρ n H v u) : FldR K ρ n H (putAttr f v fs) (putF f u us) := by
  induction h with
  | nil => exact .cons r .nil
  | @cons g x y xs ys h t ih =>
    unfold putAttr putF
    by_cases e : g = f
    · rw [if_pos e, if_pos e]; exact .cons r t
    · rw [if_neg e, if_neg e]; exact .cons h ih
theorem FldR.length {K : PySem.W.Frag} {ρ : Nat → Addr} {n : Nat} {H : Hp} {fs us} (h : FldR K ρ n H fs us) : fs.length = us.length := by
  induction h with
  | nil => rfl
  | cons _ _ ih => exact congrArg Nat.succ ih
def attrR (f : PySem.Str) (x : Val) (m1 : Mem) : Res Val := match x with
  | .ref k => match m1[k]? with
    | some (.inst _ fs) => match fs.lookup f with
      | some v => .ok v m1
      | none => .err
    | _ => .err
  | _ => .err
theorem se_attr (hW : W.K = X.K) {fn : PySem.Str} (hb : attributeBase o fn X.env (eval o X.env) = eval o X.env) (ho : SE X W wx o fo) : SE X W wx (.Attribute o fn pos) (fun l m => (fo l m).bind fun x m1 => attrR fn x m1) := by
  obtain ⟨to, po, qo⟩ := ho.ex
  refine ⟨_, pe_fld po hb, fun σ H ρ l m Q ss s p => ?_⟩
  refine qo σ H ρ l m _ ss s ((Post.bind ss p).mono fun u H1 ⟨x, m1, ρ1, A, p1⟩ => ?_)
  unfold attrR at p1
  split at p1
  · rename_i k
    split at p1
    · rename_i c0 fs ek
      split at p1
      · rename_i v ev
        obtain ⟨dx, us, q1, q2, q3, q4⟩ := A.sim.inst ek
        obtain ⟨w, w1, w2⟩ := (q2.get fn).1 v ev
        have r := A.rep
        cases r
        exact ⟨_, _, dx, us, w, rfl, q1, by rw [← hW]; exact q3, by rw [← hW]; exact q4 fn w w1, w1, A.sim.one p1 w2⟩
      · exact p1.elim
    · exact p1.elim
  · exact p1.elim

/-! ### calls -/
def spC (W : Wd) (C : Calls) (f : PySem.Str) : Sp := fun vs H Q E => ∃ ρ m xs, Sim W ρ m H ∧ RepL W.K ρ m.length H xs vs ∧ Post W (fun cls d _ H => E cls d H) [] ρ m.length H (C f xs m) Q
theorem post_call {σ : L2.St} {ρ : Nat → Addr} {n : Nat} {H : Hp} {r : Res Val} {Q : VK} (p : Post W wx σ ρ n H r Q) : Post W (fun cls d _ H => WE wx σ cls d H) [] ρ n H r Q := by
  cases r with
  | ok v m => exact p
  | exc c fs m => exact p
  | err => exact p

variable {k : Nat} {f0 fa0 C0 : Addr} {fd : FuncData} {ps : List PySem.Str} {fn : PySem.Str} {Cc : Calls} {p apos : Pos}
theorem se_call (F : FnOk X.prog X.w X.K X.mg X.base (L2.CX X.prog X.w) k f0 fd ps (spC W Cc fn)) (hr : Room k X.A) (hg : Gl X fn) (hm : X.mg fn = some (.ref f0)) (hk : PySem.W.keepIn X.K (.ref f0) = true) (hb : Binds X.K fd ps [])
    (tk : Takes X wx) (hdb : (fn == ("__debug__" : PySem.Str)) = false) (he : starEach (e :: es) X.env = (false, eval e X.env) :: starEach es X.env) (hpl : (backTo pos (starEach es X.env)).any (·.1) = false) (ha : SA X W wx (e :: es) fr) :
    SE X W wx (.Call (.Name fn p) (e :: es) [] pos) (fun l m => (fr l m).bind fun vs m1 => Cc fn vs m1) := by
  obtain ⟨ta, pa, qa⟩ := ha.ex
  refine ⟨_, pe_callS F hr hg hm hk hb (fun σ => passAt tk σ) pa hdb he hpl, fun σ H ρ l m Q ss s p => ?_⟩
  refine qa σ H ρ l m _ ss s ((PostL.bind ss p).mono fun us H1 ⟨xs, m1, ρ1, A, p1⟩ => ?_)
  exact ⟨ρ1, m1, xs, A.sim, A.rep, post_call p1⟩
theorem pe_callS0 {CX : CXT} {sp : Sp} {E : L2.St → XK} (F : FnOk X.prog X.w X.K X.mg X.base CX k f0 fd ps sp) (hr : Room k X.A) (hg : Gl X fn) (hm : X.mg fn = some (.ref f0)) (hk : PySem.W.keepIn X.K (.ref f0) = true) (hb : Binds X.K fd ps []) (hx : ∀ σ, PassesAt CX X σ (E σ))
    (hdb : (fn == ("__debug__" : PySem.Str)) = false) : PE X (.Call (.Name fn p) [] [] pos) (tCallS sp E tNil) := by
  refine ⟨fun pins s σ H Q I h => ?_⟩
  refine wpAny_Call_Name_kw (ld_glob I hg hm ?_ hdb)
  exact PySem.W.callWith_K0 I.kIn hk (run_fnS (us := []) F hr hb (hx σ) I .nil h)
theorem se_call0 (F : FnOk X.prog X.w X.K X.mg X.base (L2.CX X.prog X.w) k f0 fd ps (spC W Cc fn)) (hr : Room k X.A) (hg : Gl X fn) (hm : X.mg fn = some (.ref f0)) (hk : PySem.W.keepIn X.K (.ref f0) = true) (hb : Binds X.K fd ps [])
    (tk : Takes X wx) (hdb : (fn == ("__debug__" : PySem.Str)) = false) :
    SE X W wx (.Call (.Name fn p) [] [] pos) (fun l m => (Res.ok ([] : List Val) m).bind fun vs m1 => Cc fn vs m1) := by
  refine ⟨_, pe_callS0 F hr hg hm hk hb (fun σ => passAt tk σ) hdb, fun σ H ρ l m Q ss s p => ?_⟩
  exact ⟨ρ, m, [], s, .nil, post_call p⟩

/-! a method of an instance -/
theorem getmeth_plain {pins : List (Addr × Obj)} {s : Shared} {σ : L2.St} {H : Hp} {Q : Value → Shared → Prop} {to : TE} {mn : PySem.Str} {args : List Expr} (hbase : attributeBase o mn X.env (eval o X.env) = eval o X.env) (hline : (apos.endLine == pos.line) = true)
    (hform : methodCallForm (args.length + ([] : List Keyword).length) (backTo pos (starEach args X.env)) (backToKw pos (keywordEach [] X.env)) = true) (ho : PE X o to) (I : Inv X pins σ H s)
    (h : to σ H fun x H1 => ∃ a C dx fs g, x = .ref a ∧ H1 a = some (.ins C dx fs) ∧ Cls X.K C ∧ Meth X.K C mn g ∧ fs.lookup mn = none ∧
      ∀ s1, Inv X pins σ H1 s1 → wpAny (model X.prog X.w) X.A (callWith pos (.ref g) [.ref a] (backTo pos (starEach args X.env)) (backToKw pos (keywordEach [] X.env))) Q X.xe s1) :
    wpAny (model X.prog X.w) X.A (eval (.Call (.Attribute o mn apos) args [] pos) X.env) Q X.xe s := by
  refine methcall_of (pl := plainOf o X.env) ho I h ?_
  show (do
    let ov ← attributeBase o mn X.env (eval o X.env)
    standAt apos.atName
    methodCall o mn apos pos X.env ov (args.length + ([] : List Keyword).length) (backTo pos (starEach args X.env)) (backToKw pos (keywordEach [] X.env))) = _
  rw [hbase]
  congr 1
  funext ov
  congr 1
  funext _
  exact mcall_line hform hline
/-- the promise of a method, by the instance's class -/
def MethOk (X : Cx) (W : Wd) (Cc : Calls) (k : Nat) (c0 mn q : PySem.Str) : Prop :=
  ∃ g fd ps, Meth X.K (W.cad c0) mn g ∧ FnOk X.prog X.w X.K X.mg X.base (L2.CX X.prog X.w) k g fd ps (spC W Cc q) ∧ Binds X.K fd ps []
def methR (P : Prog) (Cc : Calls) (mn : PySem.Str) (fr : Mem → Res (List Val)) (x : Val) (m1 : Mem) : Res Val := match x with
  | .ref k => match m1[k]? with
    | some (.inst c fs) => match P.meth c mn with
      | some q => if (fs.lookup mn).isNone = true then (fr m1).bind fun vs m2 => Cc q (x :: vs) m2 else .err
      | none => .err
    | _ => .err
  | _ => .err
theorem methR_post {P : Prog} {σ : L2.St} {ρ : Nat → Addr} {n : Nat} {H : Hp} {mn : PySem.Str} {fr : Mem → Res (List Val)} {x : Val} {m1 : Mem} {Q : VK} (p : Post W wx σ ρ n H (methR P Cc mn fr x m1) Q) :
    ∃ k0 c0 fs q, x = .ref k0 ∧ m1[k0]? = some (.inst c0 fs) ∧ P.meth c0 mn = some q ∧ fs.lookup mn = none ∧ Post W wx σ ρ n H ((fr m1).bind fun vs m2 => Cc q (x :: vs) m2) Q := by
  unfold methR at p
  split at p
  · split at p
    · split at p
      · split at p
        · rename_i h
          exact ⟨_, _, _, _, rfl, by assumption, by assumption, Option.isNone_iff_eq_none.mp h, p⟩
        · exact p.elim
      · exact p.elim
    · exact p.elim
  · exact p.elim
theorem se_meth {P : Prog} (hW : W.K = X.K) {mn : PySem.Str} (hbase : attributeBase o mn X.env (eval o X.env) = eval o X.env) (hline : (apos.endLine == pos.line) = true)
    (hform : methodCallForm ((e :: es).length + ([] : List Keyword).length) (backTo pos (starEach (e :: es) X.env)) (backToKw pos (keywordEach [] X.env)) = true)
    (hM : ∀ c0 q, P.meth c0 mn = some q → MethOk X W Cc k c0 mn q) (hr : Room k X.A) (tk : Takes X wx) (he : starEach (e :: es) X.env = (false, eval e X.env) :: starEach es X.env) (hpl : (backTo pos (starEach es X.env)).any (·.1) = false)
    (ho : SE X W wx o fo) (ha : SA X W wx (e :: es) fr) :
    SE X W wx (.Call (.Attribute o mn apos) (e :: es) [] pos) (fun l m => (fo l m).bind fun x m1 => methR P Cc mn (fr l) x m1) := by
  obtain ⟨to, po, qo⟩ := ho.ex
  obtain ⟨ta, pa, qa⟩ := ha.ex
  refine ⟨fun σ H Q => ∀ pins s, Inv X pins σ H s → to σ H fun x H1 => ∃ a C dx fs g, x = .ref a ∧ H1 a = some (.ins C dx fs) ∧ Cls X.K C ∧ Meth X.K C mn g ∧ fs.lookup mn = none ∧
      ∀ s1, Inv X pins σ H1 s1 → wpAny (model X.prog X.w) X.A (callWith pos (.ref g) [.ref a] (backTo pos (starEach (e :: es) X.env)) (backToKw pos (keywordEach [] X.env))) (EP X pins σ Q) X.xe s1, ⟨fun pins s σ H Q I h => getmeth_plain hbase hline hform po I (h pins s I)⟩, fun σ H ρ l m Q ss s p pins s0 I0 => ?_⟩
  refine qo σ H ρ l m _ ss s ((Post.bind ss p).mono fun u H1 ⟨x, m1, ρ1, A, p1⟩ => ?_)
  obtain ⟨k0, c0, fs, q, ex, ek, em, el, p1⟩ := methR_post p1
  subst ex
  obtain ⟨dx, us, q1, q2, q3, q4⟩ := A.sim.inst ek
  obtain ⟨g, fd, ps, M, F, B⟩ := hM c0 q em
  have r := A.rep
  cases r with
  | ref hk0 =>
    refine ⟨_, _, dx, us, g, rfl, q1, by rw [← hW]; exact q3, M, (q2.get mn).2 el, fun s1 I1 => ?_⟩
    refine PySem.W.callWith_K (first := [.ref (ρ1 k0)]) (h₀ := X.base) I1.ok.mod.kin M.kp (thn (pa.run pos pins s1 σ H1 _ I1 (qa σ H1 ρ1 l m1 _ A.ss A.sim (PostL.bind A.ss p1))) fun ws s2 ⟨vs, H2, I2, r2, xs, m2, ρ2, A2, p2⟩ => ⟨I2.kIn, ?_⟩) he hpl
    exact run_fnS (us := .ref (ρ1 k0) :: ws) (vs := .ref (ρ1 k0) :: vs) F hr B (passAt tk σ) I2 (.cons rfl r2) ⟨ρ2, m2, _, A2.sim, .cons (A.rep.ext A2.ext) A2.rep, post_call p2⟩
theorem se_meth0 {P : Prog} (hW : W.K = X.K) {mn : PySem.Str} (hbase : attributeBase o mn X.env (eval o X.env) = eval o X.env) (hline : (apos.endLine == pos.line) = true)
    (hM : ∀ c0 q, P.meth c0 mn = some q → MethOk X W Cc k c0 mn q) (hr : Room k X.A) (tk : Takes X wx) (ho : SE X W wx o fo) :
    SE X W wx (.Call (.Attribute o mn apos) [] [] pos) (fun l m => (fo l m).bind fun x m1 => methR P Cc mn (fun m => .ok [] m) x m1) := by
  obtain ⟨to, po, qo⟩ := ho.ex
  refine ⟨fun σ H Q => ∀ pins s, Inv X pins σ H s → to σ H fun x H1 => ∃ a C dx fs g, x = .ref a ∧ H1 a = some (.ins C dx fs) ∧ Cls X.K C ∧ Meth X.K C mn g ∧ fs.lookup mn = none ∧
      ∀ s1, Inv X pins σ H1 s1 → wpAny (model X.prog X.w) X.A (callWith pos (.ref g) [.ref a] (backTo pos (starEach [] X.env)) (backToKw pos (keywordEach [] X.env))) (EP X pins σ Q) X.xe s1, ⟨fun pins s σ H Q I h => getmeth_plain hbase hline rfl po I (h pins s I)⟩, fun σ H ρ l m Q ss s p pins s0 I0 => ?_⟩
  refine qo σ H ρ l m _ ss s ((Post.bind ss p).mono fun u H1 ⟨x, m1, ρ1, A, p1⟩ => ?_)
  obtain ⟨k0, c0, fs, q, ex, ek, em, el, p1⟩ := methR_post p1
  subst ex
  obtain ⟨dx, us, q1, q2, q3, q4⟩ := A.sim.inst ek
  obtain ⟨g, fd, ps, M, F, B⟩ := hM c0 q em
  have r := A.rep
  cases r with
  | ref hk0 =>
    refine ⟨_, _, dx, us, g, rfl, q1, by rw [← hW]; exact q3, M, (q2.get mn).2 el, fun s1 I1 => ?_⟩
    exact PySem.W.callWith_K0 (first := [.ref (ρ1 k0)]) I1.kIn M.kp (run_fnS (us := [.ref (ρ1 k0)]) (vs := [.ref (ρ1 k0)]) F hr B (passAt tk σ) I1 (.cons rfl .nil) ⟨ρ1, m1, _, A.sim, .cons (.ref hk0) .nil, post_call p1⟩)

/-! builtins -/
theorem se_blt {id : String} {bf : Blt} (hc : CallR X (.builtin id) (rBlt W bf)) (hg : Gl X fn) (hm : X.mg fn = none) (hv : bootBuiltins fn = some (.builtin id)) (hn : fn ≠ "__name__") (hdb : (fn == ("__debug__" : PySem.Str)) = false)
    (he : starEach (e :: es) X.env = (false, eval e X.env) :: starEach es X.env) (hpl : (backTo pos (starEach es X.env)).any (·.1) = false) (ha : SA X W wx (e :: es) fr) :
    SE X W wx (.Call (.Name fn p) (e :: es) [] pos) (fun l m => gc m ((fr l m).bind fun vs m1 => bltop bf vs m1)) := by
  obtain ⟨ta, pa, qa⟩ := ha.ex
  refine ⟨_, pe_callB hc hg hm hv pa hn hdb he hpl, fun σ H ρ l m Q ss s p => ?_⟩
  refine qa σ H ρ l m _ ss s ((PostL.bind ss (gc_ok s p)).mono fun us H1 ⟨xs, m1, ρ1, A, p1⟩ => ?_)
  exact ⟨ρ1, m1, xs, A.sim, A.rep, p1.nx fun _ _ _ => bltop_nx⟩
theorem se_bltT {T : String} {bf : Blt} (hc : CallR X (.type T) (rBlt W bf)) (hg : Gl X fn) (hm : X.mg fn = none) (hv : bootBuiltins fn = some (.type T)) (hn : fn ≠ "__name__") (hdb : (fn == ("__debug__" : PySem.Str)) = false)
    (he : starEach (e :: es) X.env = (false, eval e X.env) :: starEach es X.env) (hpl : (backTo pos (starEach es X.env)).any (·.1) = false) (ha : SA X W wx (e :: es) fr) :
    SE X W wx (.Call (.Name fn p) (e :: es) [] pos) (fun l m => gc m ((fr l m).bind fun vs m1 => bltop bf vs m1)) := by
  obtain ⟨ta, pa, qa⟩ := ha.ex
  refine ⟨_, pe_callTy hc hg hm hv pa hn hdb he hpl, fun σ H ρ l m Q ss s p => ?_⟩
  refine qa σ H ρ l m _ ss s ((PostL.bind ss (gc_ok s p)).mono fun us H1 ⟨xs, m1, ρ1, A, p1⟩ => ?_)
  exact ⟨ρ1, m1, xs, A.sim, A.rep, p1.nx fun _ _ _ => bltop_nx⟩
end
end Py

namespace Py
open PySem PySem.Spec PyProof.Rows L2

/-! ### readings without a choice -/
def tSem (W : Wd) (wx : WX) (f : Loc → Mem → Res Val) : TE := fun σ H Q => ∃ ρ l m, SimS W.K ρ m.length H l σ ∧ Sim W ρ m H ∧ Post W wx σ ρ m.length H (f l m) Q
def tSemT (W : Wd) (wx : WX) (f : Loc → Mem → Res Val) : TT := fun σ H Q => ∃ ρ l m, SimS W.K ρ m.length H l σ ∧ Sim W ρ m H ∧ PostT W wx σ ρ m.length H (f l m) Q
section
variable {X : Cx} {W : Wd} {wx : WX} {a b c e o : Expr} {es : List Expr} {fa fb fc f fo fl fh : Loc → Mem → Res Val} {fr : Loc → Mem → Res (List Val)} {pos p2 : Pos}
theorem SE.pe (h : SE X W wx e f) : PE X e (tSem W wx f) := by
  obtain ⟨t, p, q⟩ := h.ex
  exact ⟨fun pins s σ H Q I ⟨ρ, l, m, ss, sm, po⟩ => p.run pins s σ H Q I (q σ H ρ l m Q ss sm po)⟩
theorem ST.pt (h : ST X W wx e f) : PT X e (tSemT W wx f) := by
  obtain ⟨t, p, q⟩ := h.ex
  exact ⟨fun pins s σ H Q I ⟨ρ, l, m, ss, sm, po⟩ => p.run pins s σ H Q I (q σ H ρ l m Q ss sm po)⟩

/-! ### targets -/
def gSem (W : Wd) (t : Tg) : TG := fun u σ H Q => ∃ ρ l m v l', SimS W.K ρ m.length H l σ ∧ Sim W ρ m H ∧ Rep W.K ρ m.length H v u ∧ assignT m t v l = some l' ∧ ∀ σ', SimS W.K ρ m.length H l' σ' → (∀ i, i ∉ t.slots → σ'[i]? = σ[i]?) → σ'.length = σ.length → Q σ' H
def gSems (W : Wd) (ts : List Tg) : TGs := fun us σ H Q => ∃ ρ l m vs l', SimS W.K ρ m.length H l σ ∧ Sim W ρ m H ∧ RepL W.K ρ m.length H vs us ∧ assignTs m ts vs l = some l' ∧ ∀ σ', SimS W.K ρ m.length H l' σ' → (∀ i, i ∉ Tg.slotsL ts → σ'[i]? = σ[i]?) → σ'.length = σ.length → Q σ' H
theorem pgWeak {tg : Expr} {t t' : TG} (h : PG X tg t) (k : ∀ u σ H Q, t' u σ H Q → t u σ H Q) : PG X tg t' := ⟨fun pins s σ H v u Q I r q => h.run pins s σ H v u Q I r (k _ _ _ _ q)⟩
theorem pgsWeak {tg : List Expr} {t t' : TGs} (h : PGs X tg t) (k : ∀ u σ H Q, t' u σ H Q → t u σ H Q) : PGs X tg t' := ⟨fun pins s σ H v u Q I r q => h.run pins s σ H v u Q I r (k _ _ _ _ q)⟩
theorem sg_name {i : Nat} {x : PySem.Str} (hN : X.N.Nodup) (hi : X.N[i]? = some x) (hx : L2.Loc X.env.scope x) (hf : X.fn x = true ∨ X.env.scope.names.lookup x = some .local) : PG X (.Name x pos) (gSem W (.name i)) := by
  refine pgWeak (pg_name (i := i) hN hi hx hf) fun u σ H Q h => ?_
  obtain ⟨ρ, l, m, v, l', ss, s, r, e, q⟩ := h
  unfold assignT at e
  cases e
  refine q _ (ss.set r i) (fun j hj => ?_) (by simp)
  rw [List.getElem?_set_ne]
  intro e
  apply hj
  unfold Tg.slots
  rw [e]
  exact List.mem_singleton.mpr rfl
theorem sg_nil : PGs X [] (gSems W []) := by
  refine pgsWeak pgs_nil fun u σ H Q h => ?_
  obtain ⟨ρ, l, m, vs, l', ss, s, r, e, q⟩ := h
  cases r with
  | nil =>
    unfold assignTs at e
    cases e
    exact ⟨rfl, q σ ss (fun _ _ => rfl) rfl⟩
  | cons _ _ => unfold assignTs at e; cases e
theorem sg_cons {t : Tg} {ts : List Tg} (h1 : PG X e (gSem W t)) (h2 : PGs X es (gSems W ts)) (hs : (assignEach (e :: es) X.env).map (·.2) = assign e X.env :: (assignEach es X.env).map (·.2)) : PGs X (e :: es) (gSems W (t :: ts)) := by
  refine pgsWeak (pgs_cons h1 h2 hs) fun u σ H Q h => ?_
  obtain ⟨ρ, l, m, vs, l', ss, s, r, e, q⟩ := h
  cases r with
  | nil => unfold assignTs at e; cases e
  | cons r rr =>
    unfold assignTs at e
    obtain ⟨l1, e1, e2⟩ := Option.bind_eq_some_iff.mp e
    refine ⟨_, _, rfl, ρ, l, m, _, l1, ss, s, r, e1, fun σ1 ss1 k1 n1 => ?_⟩
    refine ⟨ρ, l1, m, _, l', ss1, s, rr, e2, fun σ2 ss2 k2 n2 => q σ2 ss2 (fun i hi => ?_) (n2.trans n1)⟩
    unfold Tg.slotsL at hi
    rw [List.mem_append, not_or] at hi
    exact (k2 i hi.2).trans (k1 i hi.1)
theorem assignTs_len {m : Mem} : ∀ {ts : List Tg} {xs : List Val} {l l' : Loc}, assignTs m ts xs l = some l' → ts.length = xs.length
  | [], [], _, _, _ => rfl
  | [], _ :: _, _, _, e => by unfold assignTs at e; cases e
  | _ :: _, [], _, _, e => by unfold assignTs at e; cases e
  | t :: ts, x :: xs, l, l', e => by
    unfold assignTs at e
    obtain ⟨l1, e1, e2⟩ := Option.bind_eq_some_iff.mp e
    exact congrArg Nat.succ (assignTs_len e2)
theorem sg_tup {k : Nat} {ts : List Tg} (hW : W.K = X.K) (hc : X.calm = true) (h : PGs X es (gSems W ts)) (hn : (assignEach es X.env).length = ts.length) (hst : (assignEach es X.env).findIdx? (·.1) = none) : PG X (.Tuple es k pos) (gSem W (.tup ts)) := by
  refine pgWeak (pg_tup (n := ts.length) hc h hn hst) fun u σ H Q h => ?_
  obtain ⟨ρ, l, m, v, l', ss, s, r, e, q⟩ := h
  unfold assignT at e
  cases r with
  | tup hx rl =>
    simp only at e
    exact ⟨_, _, rfl, by rw [← hW]; exact sqT_of hx, by rw [← rl.length]; exact (assignTs_len e).symm, ρ, l, m, _, l', ss, s, rl, e, by unfold Tg.slots at q; exact q⟩
  | @kt xs a hx =>
    simp only at e
    have rl := RepL.ints (K := W.K) (ρ := ρ) (n := m.length) (H := H) xs
    exact ⟨_, _, rfl, by rw [← hW]; exact hx H, by rw [← rl.length]; exact (assignTs_len e).symm, ρ, l, m, _, l', ss, s, rl, e, by unfold Tg.slots at q; exact q⟩
  | _ => cases e

/-! ### what is walked -/
structure WalksOn (W : Wd) (J : L2.It) (xs : List Val) (chk : Option (Nat × List Val)) (ρ0 : Nat → Addr) (n0 : Nat) (H0 : Hp) : Prop where
  go : ∀ (i : Nat) (ρ : Nat → Addr) (m : Mem) (H : Hp) (v : Val), TrW W.K ρ0 n0 H0 ρ m.length H → Sim W ρ m H → still chk m → xs[i]? = some v → J.go i H ∧ ∀ x H', J.yld i H x H' → (H' = H ∨ ∃ p o, H p = none ∧ H' = upd H p o) ∧ Rep W.K ρ m.length H' v x
  stop : ∀ (i : Nat) (ρ : Nat → Addr) (m : Mem) (H : Hp), TrW W.K ρ0 n0 H0 ρ m.length H → Sim W ρ m H → still chk m → xs.length ≤ i → J.stop i H
def PostI (W : Wd) (wx : WX) (σ : L2.St) (ρ : Nat → Addr) (n : Nat) (H : Hp) (r : Res (List Val × Option (Nat × List Val))) (R : L2.It → Hp → Prop) : Prop := match r with
  | .ok w m => ∀ ρ' H' J, Ext W.K ρ n H ρ' m.length H' → Sim W ρ' m H' → WalksOn W J w.1 w.2 ρ' m.length H' → R J H'
  | .exc c fs m => ∀ ρ' H' cls d, Ext W.K ρ n H ρ' m.length H' → Sim W ρ' m H' → RepX W ρ' m.length H' c fs cls d → wx cls d σ H'
  | .err => False
structure SI (X : Cx) (W : Wd) (wx : WX) (tg iter : Expr) (f : Py.Loc → Mem → Res (List Val × Option (Nat × List Val))) : Prop where
  ex : ∃ wi : TI, PI X tg iter wi ∧ ∀ (σ : L2.St) (H : Hp) (ρ : Nat → Addr) (l : Py.Loc) (m : Mem) (R : L2.It → Hp → Prop), SimS W.K ρ m.length H l σ → Sim W ρ m H → PostI W wx σ ρ m.length H (f l m) R → wi σ H R
theorem PI.or {tg iter : Expr} {w1 w2 : TI} (h1 : PI X tg iter w1) (h2 : PI X tg iter w2) : PI X tg iter (fun σ H R => w1 σ H R ∨ w2 σ H R) :=
  ⟨fun pins s σ H R I h => h.elim (h1.run pins s σ H R I) (h2.run pins s σ H R I)⟩
def seqR (x : Val) (m1 : Mem) : Res (List Val × Option (Nat × List Val)) := match x with
  | .tup xs => .ok (xs, none) m1
  | .fro xs => .ok (xs.map .int, none) m1
  | .ref k => match m1.list k with
    | some xs => .ok (xs, some (k, xs)) m1
    | none => .err
  | .str s => .ok (s.map fun c => .str [c], none) m1
  | _ => .err
theorem Post.bindI {σ : L2.St} {ρ : Nat → Addr} {n : Nat} {H : Hp} {l : Py.Loc} {r : Res Val} {f : Val → Mem → Res (List Val × Option (Nat × List Val))} {Q : L2.It → Hp → Prop} (ss : SimS W.K ρ n H l σ) (p : PostI W wx σ ρ n H (r.bind f) Q) :
    Post W wx σ ρ n H r fun u H1 => ∃ v m1 ρ1, Aft W σ ρ n H l v m1 ρ1 u H1 ∧ PostI W wx σ ρ1 m1.length H1 (f v m1) Q := by
  cases r with
  | ok v m =>
    intro ρ' H' u a b c
    refine ⟨v, m, ρ', ⟨a, ss.ext a, b, c⟩, ?_⟩
    have p' : PostI W wx σ ρ n H (f v m) Q := p
    cases e : f v m with
    | ok v m => rw [e] at p'; exact fun ρ2 H2 J x s w => p' ρ2 H2 J (a.trans x) s w
    | exc _ _ _ => rw [e] at p'; exact fun ρ2 H2 c d x s w => p' ρ2 H2 c d (a.trans x) s w
    | err => rw [e] at p'; exact p'
  | exc c fs m => exact p
  | err => exact p
theorem walks_list {ρ : Nat → Addr} {m : Mem} {H : Hp} {k : Nat} {xs : List Val} (s : Sim W ρ m H) (h : m.list k = some xs) : WalksOn W (Itl W.K (ρ k)) xs (some (k, xs)) ρ m.length H := by
  have hk := (s.list h).1
  refine ⟨fun i ρ1 m1 H1 v x s1 st hv => ?_, fun i ρ1 m1 H1 x s1 st hi => ?_⟩
  · have st' : m1.list k = some xs := st
    obtain ⟨_, _, us, q, r⟩ := s1.list st'
    rw [x.agree k hk] at q
    obtain ⟨u, h1, h2⟩ := r.get hv
    refine ⟨⟨us, u, SqL.of q, h1⟩, fun y H' ⟨e, hy⟩ => ?_⟩
    have := hy us (SqL.of q)
    rw [h1] at this
    cases this
    subst e
    exact ⟨.inl rfl, h2⟩
  · have st' : m1.list k = some xs := st
    obtain ⟨_, _, us, q, r⟩ := s1.list st'
    rw [x.agree k hk] at q
    exact ⟨us, SqL.of q, by rw [← r.length]; exact hi⟩
theorem walks_fro {ρ : Nat → Addr} {m : Mem} {H : Hp} {a : Addr} {xs : List Int} (h : SqF W.K H a (xs.map V.int)) : WalksOn W (Itl W.K a) (xs.map Val.int) none ρ m.length H := by
  have st : ∀ {ρ1 : Nat → Addr} {m1 : Mem} {H1 : Hp}, TrW W.K ρ m.length H ρ1 m1.length H1 → SqF W.K H1 a (xs.map V.int) := fun x => h.imp (fun ⟨o, e⟩ => ⟨o, x.tupt _ _ (.frz _ _) e⟩) id
  refine ⟨fun i ρ1 m1 H1 v x s1 _ hv => ?_, fun i ρ1 m1 H1 x s1 _ hi => ?_⟩
  · have r1 := RepL.ints (K := W.K) (ρ := ρ1) (n := m1.length) (H := H1) xs
    obtain ⟨u, h1, h2⟩ := r1.get hv
    have q := (st x).l
    refine ⟨⟨_, u, q, h1⟩, fun y H' ⟨e, hy⟩ => ?_⟩
    have z := hy _ q
    rw [h1] at z
    cases z
    subst e
    exact ⟨.inl rfl, h2⟩
  · exact ⟨_, (st x).l, by rw [List.length_map] at hi ⊢; exact hi⟩
theorem walks_tup {ρ : Nat → Addr} {m : Mem} {H : Hp} {a : Addr} {us : List V} {xs : List Val} (h : SqT W.K H a us) (r : RepL W.K ρ m.length H xs us) (inj : ∀ H1 vs, SqT W.K H1 a us → SqT W.K H1 a vs → vs = us → True) : WalksOn W (Itt W.K a) xs none ρ m.length H := by
  refine ⟨fun i ρ1 m1 H1 v x s1 _ hv => ?_, fun i ρ1 m1 H1 x s1 _ hi => ?_⟩
  · have r1 := r.tr x.toTr
    have q := x.tups a us h
    obtain ⟨u, h1, h2⟩ := r1.get hv
    refine ⟨⟨us, u, q, h1⟩, fun y H' ⟨e, hy⟩ => ?_⟩
    have := hy us q
    rw [h1] at this
    cases this
    subst e
    exact ⟨.inl rfl, h2⟩
  · exact ⟨us, x.tups a us h, by rw [← r.length]; exact hi⟩
theorem walks_str {ρ : Nat → Addr} {m : Mem} {H : Hp} {a : List Nat} (ha : okS a = true) : WalksOn W (Its (sv a)) (a.map fun c => Val.str [c]) none ρ m.length H := by
  refine ⟨fun i ρ1 m1 H1 v x s1 _ hv => ?_, fun i ρ1 m1 H1 x s1 _ hi => ?_⟩
  · rw [List.getElem?_map] at hv
    obtain ⟨c, h1, h2⟩ := Option.map_eq_some_iff.mp hv
    subst h2
    have hi : i < a.length := (List.getElem?_eq_some_iff.mp h1).1
    have e1 : (sv a).cps[i]? = some c := by simp [sv, h1]
    refine ⟨by show i < (sv a).cps.size; simp [sv, hi], fun y H' ⟨e, c', hc, hy⟩ => ?_⟩
    rw [e1] at hc
    cases hc
    subst e hy
    exact ⟨.inl rfl, .str [c] (okS_mem ha fun z hz => by rw [List.mem_singleton.mp hz]; exact List.mem_of_getElem? h1)⟩
  · rw [List.length_map] at hi
    show (sv a).cps.size ≤ i
    simp [sv, hi]
theorem walks_rng {ρ : Nat → Addr} {m : Mem} {H : Hp} (lo : Int) (n : Nat) : WalksOn W (Itr lo n) ((List.range n).map fun (i : Nat) => Val.int (lo + i)) none ρ m.length H := by
  refine ⟨fun i ρ1 m1 H1 v x s1 _ hv => ?_, fun i ρ1 m1 H1 x s1 _ hi => ?_⟩
  · rw [List.getElem?_map] at hv
    obtain ⟨c, h1, h2⟩ := Option.map_eq_some_iff.mp hv
    subst h2
    obtain ⟨hi, ec⟩ := List.getElem?_eq_some_iff.mp h1
    rw [List.length_range] at hi
    rw [List.getElem_range] at ec
    subst ec
    refine ⟨hi, fun y H' ⟨e, hy⟩ => ?_⟩
    subst e hy
    exact ⟨.inl rfl, .int _⟩
  · rw [List.length_map, List.length_range] at hi
    exact hi
theorem si_seq {tg iter : Expr} (hW : W.K = X.K) (h : SE X W wx iter f) : SI X W wx tg iter (fun l m => (f l m).bind fun x m1 => seqR x m1) := by
  obtain ⟨t, p, q⟩ := h.ex
  refine ⟨_, PI.or (pi_list p) (PI.or (pi_tup p) (pi_str p)), fun σ H ρ l m R ss s po => ?_⟩
  have p0 := Post.bindI ss po
  cases e : f l m with
  | err => rw [e] at p0; exact p0.elim
  | exc c fs m1 => exact .inl (q σ H ρ l m _ ss s (by rw [e]; rw [e] at p0; exact p0))
  | ok v m1 =>
    rw [e] at po
    have po' : PostI W wx σ ρ m.length H (seqR v m1) R := po
    unfold seqR at po'
    split at po'
    · refine .inr (.inl (q σ H ρ l m _ ss s ?_))
      rw [e]
      intro ρ' H' u x s' r
      cases r with
      | tup hx rl =>
        rename_i xs a us
        have hq := sqT_of hx
        exact ⟨a, rfl, ⟨us, by rw [← hW]; exact hq⟩, by rw [← hW]; exact po' ρ' H' _ x s' (walks_tup hq rl fun _ _ _ _ _ => trivial)⟩
    · refine .inl (q σ H ρ l m _ ss s ?_)
      rw [e]
      intro ρ' H' u x s' r
      cases r with
      | fro hf => exact ⟨_, rfl, ⟨_, by rw [← hW]; exact hf.l⟩, by rw [← hW]; exact po' ρ' H' _ x s' (walks_fro hf)⟩
    · split at po'
      · rename_i k xs ek
        refine .inl (q σ H ρ l m _ ss s ?_)
        rw [e]
        intro ρ' H' u x s' r
        cases r with
        | ref hk =>
          obtain ⟨_, _, us, q1, r1⟩ := s'.list ek
          exact ⟨_, rfl, ⟨us, SqL.of q1⟩, by rw [← hW]; exact po' ρ' H' _ x s' (walks_list s' ek)⟩
      · exact po'.elim
    · refine .inr (.inr (q σ H ρ l m _ ss s ?_))
      rw [e]
      intro ρ' H' u x s' r
      cases r with
      | str a ha => exact ⟨_, rfl, po' ρ' H' _ x s' (walks_str ha)⟩
    · exact po'.elim
def rng1R (x : Val) (m1 : Mem) : Res (List Val × Option (Nat × List Val)) := match x with
  | .int j => if -4611686018427387904 ≤ j ∧ j < 4611686018427387904 then .ok ((List.range j.toNat).map fun (i : Nat) => .int i, none) m1 else .err
  | _ => .err
def rng2R (x y : Val) (m2 : Mem) : Res (List Val × Option (Nat × List Val)) := match x, y with
  | .int i, .int j => if (-4611686018427387904 ≤ i ∧ i < 4611686018427387904) ∧ -4611686018427387904 ≤ j ∧ j < 4611686018427387904 then .ok ((List.range (j - i).toNat).map fun (k : Nat) => .int (i + k), none) m2 else .err
  | _, _ => .err
theorem si_range1 {tg : Expr} {p pos : Pos} (hg : Gl X "range") (hm : X.mg "range" = none) (hs : starEach [a] X.env = [(false, eval a X.env)]) (hs' : starEach [a] X.env = (false, eval a X.env) :: starEach [] X.env) (h : SE X W wx a fa) :
    SI X W wx tg (.Call (.Name "range" p) [a] [] pos) (fun l m => (fa l m).bind fun x m1 => rng1R x m1) := by
  obtain ⟨t, pa, q⟩ := h.ex
  refine ⟨_, pi_range1 hg hm (pa_cons pa pa_nil hs') hs, fun σ H ρ l m R ss s po => ?_⟩
  refine q σ H ρ l m _ ss s ((Post.bindI ss po).mono fun u H1 ⟨x, m1, ρ1, A, p1⟩ => ?_)
  unfold rng1R at p1
  split at p1
  · rename_i j
    split at p1
    · rename_i hj
      have r := int_of A.rep
      subst r
      refine ⟨j, rfl, by have := hj.1; omega, by have := hj.2; omega, p1 ρ1 H1 _ Ext.refl A.sim ?_⟩
      have w := walks_rng (W := W) (ρ := ρ1) (m := m1) (H := H1) 0 j.toNat
      simpa using w
    · exact p1.elim
  · exact p1.elim
theorem si_range2 {tg : Expr} {p pos : Pos} (hg : Gl X "range") (hm : X.mg "range" = none) (hs1 : starEach [a, b] X.env = [(false, eval a X.env), (false, eval b X.env)]) (hs2 : starEach [b] X.env = [(false, eval b X.env)])
    (hs3 : starEach [a, b] X.env = (false, eval a X.env) :: starEach [b] X.env) (hs4 : starEach [b] X.env = (false, eval b X.env) :: starEach [] X.env) (ha : SE X W wx a fa) (hb : SE X W wx b fb) :
    SI X W wx tg (.Call (.Name "range" p) [a, b] [] pos) (fun l m => (fa l m).bind fun x m1 => (fb l m1).bind fun y m2 => rng2R x y m2) := by
  obtain ⟨ta, pa, qa⟩ := ha.ex
  obtain ⟨tb, pb, qb⟩ := hb.ex
  refine ⟨_, pi_range2 hg hm (pa_cons pa (pa_cons pb pa_nil hs4) hs3) hs1 hs2, fun σ H ρ l m R ss s po => ?_⟩
  refine qa σ H ρ l m _ ss s ((Post.bindI ss po).mono fun u H1 ⟨x, m1, ρ1, A, p1⟩ => ?_)
  refine qb σ H1 ρ1 l m1 _ A.ss A.sim ((Post.bindI A.ss p1).mono fun w H2 ⟨y, m2, ρ2, B, p2⟩ => ?_)
  have rA := A.rep
  have rB := B.rep
  cases rA with
  | int i =>
    cases rB with
    | int j =>
      simp only [rng2R] at p2
      split at p2
      · rename_i hj
        exact ⟨i, j, rfl, ⟨by have := hj.1.1; omega, by have := hj.1.2; omega, by have := hj.2.1; omega, by have := hj.2.2; omega⟩, p2 ρ2 H2 _ Ext.refl B.sim (walks_rng i _)⟩
      · exact p2.elim
    | _ => exact p2.elim
  | _ => cases rB <;> exact p2.elim
end
end Py

namespace Py
open PySem PySem.Spec PyProof.Rows L2

section
variable {X : Cx} {W : Wd} {P : Prog} {Cc : Calls} {k : Nat}

/-! ### a method of one's own, run anywhere below -/
abbrev NoE : XK := fun _ _ _ => False
theorem run_at {A1 : Around} {E' : Value → Shared → Prop} {j : Nat} {g : Addr} {fd : FuncData} {ps : List PySem.Str} {sp : Sp} {pins : List (Addr × Obj)} {σ : L2.St} {H : Hp} {s : Shared} {us : List Value} {vs : List V} {Q : VK} (hr : Room j A1) (fr : A1.frames = X.A.frames)
    (F : FnOk X.prog X.w X.K X.mg X.base (L2.CX X.prog X.w) j g fd ps sp) (hb : Binds X.K fd ps []) (I : Inv X pins σ H s) (r : Vals vs us) (h : sp vs H Q NoE) : wpAny (model X.prog X.w) A1 (call (.ref g) us) (EP X pins σ Q) E' s := by
  have e0 : Env0 X.prog X.w X.K X.mg X.base A1 X.stack s H := by
    have e := I.env0
    exact ⟨by rw [fr]; exact e.frames, e.mod, e.bs, e.bsz, e.funs, e.frf, e.hok, e.bare⟩
  have hl : us.length = ps.length := by rw [← r.length]; exact F.len _ _ _ _ h
  have b := hb s us I.kIn (by rw [List.append_nil]; exact hl)
  rw [List.append_nil] at b
  refine wpAny_call (codeAny_mono (F.run A1 X.stack s H ⟨us, []⟩ us vs Q NoE hr e0 b r h) fun r s' hq => ?_)
  cases r with
  | error e => obtain ⟨_, _, _, _, _, _, _, _, _, _, _, _, z⟩ := hq; exact z.elim
  | ok fl =>
    cases fl with
    | ret u => exact I.after hq
    | next => exact False.elim hq
    | brk => exact False.elim hq
    | cont => exact False.elim hq

theorem lenR_of {x : Val} {m : Mem} {R : Res Val → Prop} (h : R (lenR P Cc x m)) (no : ¬ R .err) : ∃ j c fs q n m2, x = .ref j ∧ m[j]? = some (.inst c fs) ∧ P.meth c "__len__" = some q ∧ Cc q [.ref j] m = .ok (.int n) m2 ∧ 0 ≤ n ∧ n < 9223372036854775808 ∧ lenR P Cc x m = .ok (.int n) m2 := by
  have h0 := h
  unfold lenR at h
  split at h
  · rename_i j
    split at h
    · rename_i c fs ek
      split at h
      · rename_i q em
        split at h
        · rename_i n m2 er
          split at h
          · rename_i hn
            refine ⟨j, c, fs, q, n, m2, rfl, ek, em, er, hn.1, hn.2, ?_⟩
            unfold lenR
            simp only [ek, em, er]
            rw [if_pos hn]
          · exact (no h).elim
        · exact (no h).elim
      · exact (no h).elim
    · exact (no h).elim
  · exact (no h).elim

/-- len of an object with its own __len__ -/
theorem len_at {A1 : Around} {E' : Value → Shared → Prop} {pins : List (Addr × Obj)} {σ : L2.St} {H : Hp} {s : Shared} {ρ : Nat → Addr} {m m2 : Mem} {j : Nat} {c q : PySem.Str} {fs : List (PySem.Str × Val)} {n : Int} {Q : VK} (hW : W.K = X.K)
    (hM : ∀ c0 q, P.meth c0 "__len__" = some q → MethOk X W Cc k c0 "__len__" q) (hr : Room k A1.in1) (fr : A1.frames = X.A.frames) (I : Inv X pins σ H s) (sm : Sim W ρ m H) (ek : m[j]? = some (.inst c fs)) (em : P.meth c "__len__" = some q) (er : Cc q [.ref j] m = .ok (.int n) m2)
    (h0 : 0 ≤ n) (h1 : n < 9223372036854775808) (hQ : ∀ ρ' H', Py.Ext W.K ρ m.length H ρ' m2.length H' → Sim W ρ' m2 H' → Q (.int n) H') :
    wpAny (model X.prog X.w) A1 (call (.builtin "len") [.ref (ρ j)]) (EP X pins σ Q) E' s := by
  obtain ⟨dx, us, q1, q2, q3, q4⟩ := sm.inst ek
  obtain ⟨g, fd, ps, M, F, B⟩ := hM c q em
  have hj : j < m.length := (List.getElem?_eq_some_iff.mp ek).1
  obtain ⟨mA, J, _⟩ := ins_get I.hok q1
  obtain ⟨od, J, _⟩ := J.look
  have go : ∀ E1 : Value → Shared → Prop, wpAny (model X.prog X.w) A1.in1 (call (.ref g) [.ref (ρ j)]) (EP X pins σ fun v H' => v = .int n ∧ Q (.int n) H') E1 s := fun E1 =>
    run_at hr fr F B I (us := [.ref (ρ j)]) (vs := [.ref (ρ j)]) (.cons rfl .nil) ⟨ρ, m, [.ref j], sm, .cons (.ref hj) .nil, by
      rw [er]
      intro ρ' H' u a b r
      cases r
      exact ⟨rfl, hQ ρ' H' a b⟩⟩
  refine Calls.call_function_entry PySem.kind_len PySem.plain_len PySem.entry_len (PySem.args_len1 _) ?_
  unfold Builtin.«len»
  refine wpAny_bind (m := oneArg "len" _) (wpAny_pure ?_)
  refine wpAny_bind (m := callSpecial? (.ref (ρ j)) (Str.ofString "__len__")) (PySem.W.special_fn (name := "__len__") (args := []) I.kIn J M.at_ (beq_iff_eq.mp M.fn) (wpAny_mono (go _) (fun r s' hr => ?_) fun _ _ y => y))
  obtain ⟨v, H', I', rv, ev, hq⟩ := hr
  subst ev
  obtain ⟨t, rfl⟩ := rv
  refine wpAny_bind (wpAny_holding (wpAny_pure ?_))
  refine wpAny_bind (wpAny_letGo ?_)
  show wpAny _ _ (if n < 0 then _ else _) _ _ _
  rw [if_neg (by omega)]
  show wpAny _ _ (if n ≥ 2 ^ 63 then _ else _) _ _ _
  rw [if_neg (by omega)]
  exact wpAny_bind (wpAny_mkInt (wpAny_pure ⟨_, rfl, .int n, H', I'.tok _, ⟨_, rfl⟩, hq⟩))
def rLenO (P : Prog) (W : Wd) (Cc : Calls) : List V → Hp → VK → Prop := fun us H Q => ∃ ρ m v u, us = [u] ∧ Sim W ρ m H ∧ Rep W.K ρ m.length H v u ∧ PV W ρ m.length H (lenR P Cc v m) Q
theorem call_lenO (hW : W.K = X.K) (hM : ∀ c0 q, P.meth c0 "__len__" = some q → MethOk X W Cc k c0 "__len__" q) (hr : Room (k + 1) X.A) : CallR X (.builtin "len") (rLenO P W Cc) := by
  intro pins s σ H xs us Q I rv h
  obtain ⟨ρ, m, v, u, rfl, sm, r, p⟩ := h
  obtain ⟨j, c, fs, q, n, m2, rfl, ek, em, er, h0, h1, e⟩ := lenR_of (R := fun r => PV W ρ m.length H r Q) p (fun z => z)
  rw [e] at p
  obtain ⟨w, rfl, ru⟩ := vals1 rv
  cases r
  cases ru
  exact len_at hW hM hr.in1 rfl I sm ek em er h0 h1 fun ρ' H' a b => p ρ' H' _ a b (.int n)


/-! ### an own __iter__ that walks a list -/
def spItS (n : Nat) (K : PySem.W.Frag) (f : PySem.Str) : List V → Hp → VK → Prop := fun vs H Q => ∃ a C dx fs l xs, vs = [V.ref a] ∧ H a = some (.ins C dx fs) ∧ Cls K C ∧ NoAttr K C f ∧ fs.lookup f = some (.ref l) ∧ SqL K H l xs ∧ ∀ it, H it = none → n ≤ it → Q (.ref it) (upd H it (ItO l it 0))
def FnIt (P : Program) (w : World) (K : PySem.W.Frag) (mg : PySem.Str → Option Value) (base : Heap) (g : Addr) (fd : FuncData) (f : PySem.Str) : Prop :=
  ∀ (A : Around) (outer : List Env) (s : Shared) (H : Hp) (args : Args) (us : List Value) (vs : List V) (Q : VK), Room 1 A → Env0 P w K mg base A outer s H → BindsTo s fd args ([("self" : PySem.Str)].zip us) → Vals vs us → spItS s.heap.objs.size K f vs H Q →
    codeAny (model P w) A (.call (.ref g) args) (fun r s' => match r with | .ok (.ret u) => CE outer P w H s Q u s' | _ => False) s
structure IterP (P : Program) (w : World) (K : PySem.W.Frag) (mg : PySem.Str → Option Value) (base : Heap) (W : Wd) (c0 f : PySem.Str) : Prop where
  ex : ∃ g fd, PySem.W.findIn K (.ref (W.cad c0)) "__iter__" = some (some (.ref g)) ∧ PySem.W.isFn K (.ref g) = true ∧ Binds K fd [("self" : PySem.Str)] [] ∧ FnIt P w K mg base g fd f
abbrev IterOk (X : Cx) (W : Wd) (c0 f : PySem.Str) : Prop := IterP X.prog X.w X.K X.mg X.base W c0 f

theorem iterL_of {x : Val} {m : Mem} {l : Nat} (h : iterL P x m = some l) : ∃ j c fs f xs, x = .ref j ∧ m[j]? = some (.inst c fs) ∧ P.iter c = some f ∧ fs.lookup f = some (.ref l) ∧ m.list l = some xs := by
  unfold iterL at h
  split at h
  · split at h
    · split at h
      · split at h
        · split at h
          · cases h
            rename_i hs
            obtain ⟨xs, e⟩ := Option.isSome_iff_exists.mp hs
            exact ⟨_, _, _, _, xs, rfl, by assumption, by assumption, by assumption, e⟩
          · cases h
        · cases h
      · cases h
    · cases h
  · cases h

/-- iter(x): the iterator comes, tracked and young -/
theorem iter_at {A1 : Around} {E' : Value → Shared → Prop} {pins : List (Addr × Obj)} {σ : L2.St} {H : Hp} {s : Shared} {ρ : Nat → Addr} {m : Mem} {j l : Nat} {c f : PySem.Str} {fs : List (PySem.Str × Val)} {xs : List Val} {Q : Value → Shared → Prop} (hW : W.K = X.K)
    (hI : ∀ c0 f, P.iter c0 = some f → IterOk X W c0 f) (hr : Room 1 A1) (fr : A1.frames = X.A.frames) (I : Inv X pins σ H s) (sm : Sim W ρ m H) (ek : m[j]? = some (.inst c fs)) (ei : P.iter c = some f) (el : fs.lookup f = some (.ref l)) (ex : m.list l = some xs)
    (hQ : ∀ it s', H it = none → s.heap.objs.size ≤ it → Inv X pins σ (upd H it (ItO (ρ l) it 0)) s' → Q (.ref it) s') :
    wpAny (model X.prog X.w) A1 (pyIter (.ref (ρ j))) Q E' s := by
  obtain ⟨dx, us, q1, q2, q3, q4⟩ := sm.inst ek
  obtain ⟨g, fd, M1, M2, B, F⟩ := (hI c f ei).ex
  have hj : j < m.length := (List.getElem?_eq_some_iff.mp ek).1
  obtain ⟨mA, J, _⟩ := ins_get I.hok q1
  obtain ⟨od, J, _⟩ := J.look
  obtain ⟨w, w1, w2⟩ := (q2.get f).1 _ el
  obtain ⟨hl, _, ws, b1, b2⟩ := sm.list ex
  cases w2
  have e0 : Env0 X.prog X.w X.K X.mg X.base A1 X.stack s H := by
    have e := I.env0
    exact ⟨by rw [fr]; exact e.frames, e.mod, e.bs, e.bsz, e.funs, e.frf, e.hok, e.bare⟩
  have b := B s [.ref (ρ j)] I.kIn rfl
  obtain ⟨m0, hF⟩ := I.fr
  refine PySem.W.owit_iter hF I.ok.mod.kin J M1 M2 ?_
  refine wpAny_call (codeAny_mono (F A1 X.stack s H ⟨[.ref (ρ j)], []⟩ [.ref (ρ j)] [.ref (ρ j)] (fun v H' => ∃ it, v = .ref it ∧ H it = none ∧ s.heap.objs.size ≤ it ∧ H' = upd H it (ItO (ρ l) it 0)) hr e0 b (.cons rfl .nil)
    ⟨ρ j, _, dx, us, ρ l, ws, rfl, q1, by rw [← hW]; exact q3, by rw [← hW]; exact q4 f _ w1, w1, SqL.of b1, fun it h1 h2 => ⟨it, rfl, h1, h2, rfl⟩⟩) fun r s' hq => ?_)
  cases r with
  | error e => exact hq.elim
  | ok fl =>
    cases fl with
    | ret u =>
      obtain ⟨v, H', I', rv, it, ev, h1, h2, eH⟩ := I.after hq
      subst ev eH
      cases rv
      have hT : s'.TypeIs (.ref it) "list_iterator" := ⟨_, itO_get I' upd_same, rfl⟩
      show wpAny _ _ (specialOf (.ref it) "__next__") _ _ _
      exact wpAny_specialOf hT slot_listiter_next.lookup (hQ it s' h1 h2 I')
    | next => exact hq.elim
    | brk => exact hq.elim
    | cont => exact hq.elim

theorem next_itO {A1 : Around} {E' : Value → Shared → Prop} {pins : List (Addr × Obj)} {σ : L2.St} {H : Hp} {s : Shared} {it l : Addr} {i : Nat} {xs : List V} {x : V} {Q : Option Value → Shared → Prop} (I : Inv X pins σ H s) (ei : H it = some (ItO l it i)) (el : H l = some (.lst xs)) (ex : xs[i]? = some x)
    (hQ : ∀ u s', RelV x u → Inv X pins σ (upd H it (ItO l it (i + 1))) s' → Q (some u) s') : wpAny (model X.prog X.w) A1 (pyNext (.ref it)) Q E' s := by
  obtain ⟨its, rv, pl, _⟩ := I.list (SqL.of el)
  obtain ⟨u, hu, ru⟩ := rv.get ex
  have hT : s.TypeIs (.ref it) "list_iterator" := ⟨_, itO_get I ei, rfl⟩
  have mu : Mut (H it) := by rw [ei]; exact True.intro
  unfold pyNext
  refine wpAny_bind (wpAny_attempt (wpAny_callSpecial?_slot (name := Str.ofString "__next__") hT slot_listiter_next (wpAny_call_entry slot_listiter_next hT entry_listiter_next ?_ (args_listiter_next _))))
  refine wpAny_mono (GNX.next_item (itO_get I ei) pl.isList (by rw [List.getElem?_toArray]; exact hu) (Q := fun v s' => v = u ∧ Inv X pins σ (upd H it (ItO l it (i + 1))) s') fun h' e' sb => ⟨rfl, I.write (x := it) (e := it) (t' := s.toks) mu (.inl rfl) (fun b o nb z => (sb.2 b nb).trans z) ⟨_, e'⟩ (itO_ok e')⟩) (fun fin s' hq => ?_) fun _ _ z => z
  obtain ⟨v, e, ev, I'⟩ := hq
  subst ev
  exact ⟨_, e, wpAny_pure (hQ _ s' ru I')⟩
theorem next_itE {A1 : Around} {E' : Value → Shared → Prop} {pins : List (Addr × Obj)} {σ : L2.St} {H : Hp} {s : Shared} {it l : Addr} {i : Nat} {xs : List V} {Q : Option Value → Shared → Prop} (hh : A1.handled = none) (I : Inv X pins σ H s) (ei : H it = some (ItO l it i)) (el : H l = some (.lst xs)) (ex : xs[i]? = none)
    (hQ : ∀ s', Inv X pins σ (upd H it (ItE it i)) s' → Q none s') : wpAny (model X.prog X.w) A1 (pyNext (.ref it)) Q E' s := by
  obtain ⟨its, rv, pl, _⟩ := I.list (SqL.of el)
  have hT : s.TypeIs (.ref it) "list_iterator" := ⟨_, itO_get I ei, rfl⟩
  have mu : Mut (H it) := by rw [ei]; exact True.intro
  unfold pyNext
  refine wpAny_bind (wpAny_attempt (wpAny_callSpecial?_slot (name := Str.ofString "__next__") hT slot_listiter_next (wpAny_call_entry slot_listiter_next hT entry_listiter_next ?_ (args_listiter_next _))))
  refine wpAny_mono (GNX.next_end (A := A1) hh (itO_get I ei) pl.isList (by rw [List.getElem?_toArray]; exact rv.none_of ex) (Q := fun _ _ => False) (E := fun u s' => ∃ e, u = .ref e ∧ (∃ o, s'.heap.get? e = some o ∧ o.cls = .type "StopIteration") ∧ Inv X pins σ (upd H it (ItE it i)) s') fun h1 h' e vs e1 sb k ne he' hv => ?_) (fun fin s' hq => ?_) fun u s' hq => ?_
  · have I2 : Inv X pins σ (upd H it (ItE it i)) { s with heap := h1 } := I.write (x := it) (e := it) (t' := s.toks) mu (.inl rfl) (fun b o nb z => (sb.2 b nb).trans z) ⟨_, e1⟩ (itE_ok e1)
    exact ⟨e, rfl, ⟨_, he', rfl⟩, I2.kept (t' := s.toks) k⟩
  · obtain ⟨_, _, z⟩ := hq
    exact z.elim
  · obtain ⟨e, rfl, ⟨o, ho, hc⟩, I2⟩ := hq
    refine wpAny_bind (wpAny_isInstance (T := "StopIteration") (b := true) ⟨o, ho, hc⟩ isSubtype_stop ?_)
    exact wpAny_pure (hQ _ I2)

/-- the list fills -/
theorem own_loop {A1 : Around} {pins : List (Addr × Obj)} {σ : L2.St} {H0 : Hp} {it l q : Addr} {xs : List V} {Rs : Result → Shared → Prop} (hh : A1.in1.handled = none) (hq : q ≠ it) (hl : l ≠ it) (hlq : l ≠ q) (hz : xs.length ≤ sizeLine)
    (hdone : ∀ H s, Inv X pins σ H s → (∀ b, b ≠ q → b ≠ it → H b = H0 b) → H q = some (.lst xs) → H it ≠ none → Rs (.ok (.ret .none)) s) :
    ∀ (k i : Nat) (H : Hp) (s : Shared), xs.length - i = k → i ≤ xs.length → Inv X pins σ H s → (∀ b, b ≠ q → b ≠ it → H b = H0 b) → H q = some (.lst (xs.take i)) → H it = some (ItO l it i) → H l = some (.lst xs) →
      codeAny (model X.prog X.w) A1 (.builtin "list.extend.loop" ⟨[.ref q, .ref it, .none], []⟩) Rs s := by
  intro k
  induction k with
  | zero =>
    intro i H s hk hi I hf eq ei el
    have e : i = xs.length := by omega
    subst e
    refine codeAny_builtin PySem.F.entry_extend_loop ?_
    rw [Around.under_plainId PySem.F.plain_extend_loop _]
    show wpAny _ A1.in1 (pyNext (.ref it) >>= _) _ _ s
    refine wpAny_bind (next_itE hh I ei el (by simp) fun s' I' => ?_)
    refine wpAny_pure (hdone _ s' I' (fun b h1 h2 => by rw [upd_ne h2]; exact hf b h1 h2) (by rw [upd_ne hq, eq, List.take_of_length_le (Nat.le_refl _)]) (by rw [upd_same]; simp))
  | succ k ih =>
    intro i H s hk hi I hf eq ei el
    have hi' : i < xs.length := by omega
    refine codeAny_builtin PySem.F.entry_extend_loop ?_
    rw [Around.under_plainId PySem.F.plain_extend_loop _]
    show wpAny _ A1.in1 (pyNext (.ref it) >>= _) _ _ s
    refine wpAny_bind (next_itO I ei el (List.getElem?_eq_getElem hi') fun u s' ru I' => ?_)
    show wpAny _ A1.in1 (updateSeq q (·.push u) >>= _) _ _ _
    have eq' : upd H it (ItO l it (i + 1)) q = some (.lst (xs.take i)) := by rw [upd_ne hq]; exact eq
    obtain ⟨z, its, n, r2, hl2, e⟩ := I'.lstM eq'
    have hti : (xs.take i).length = i := by rw [List.length_take]; omega
    refine wpAny_bind (wpAny_updateSeq e rfl (wpAny_pure ⟨plainId_quiet PySem.F.plain_extend_loop _, ?_⟩) (by rw [List.size_toArray]; omega) (by show (its.toArray.push u).size ≤ sizeLine + 1; rw [Array.size_push, List.size_toArray]; omega))
    have I2 := I'.lset (its' := its ++ [u]) (ys := xs.take (i + 1)) (f := (·.push u)) (t' := s'.toks) eq' e (by simp) (by rw [List.take_succ, List.getElem?_eq_getElem hi']; exact r2.append (.cons ru .nil)) (by rw [List.length_take]; omega)
    refine ih (i + 1) _ _ (by omega) hi' I2 (fun b h1 h2 => by rw [upd_ne h1, upd_ne h2]; exact hf b h1 h2) upd_same (by rw [upd_ne (Ne.symm hq), upd_same]) (by rw [upd_ne hlq, upd_ne hl]; exact el)

/-- the hint of an object with its own __len__ -/
theorem own_hint {A1 : Around} {E' : Value → Shared → Prop} {pins : List (Addr × Obj)} {σ : L2.St} {H : Hp} {s : Shared} {ρ : Nat → Addr} {m m2 : Mem} {j : Nat} {c q : PySem.Str} {fs : List (PySem.Str × Val)} {n : Int} {Q : Bool → Shared → Prop} (hW : W.K = X.K)
    (hM : ∀ c0 q, P.meth c0 "__len__" = some q → MethOk X W Cc k c0 "__len__" q) (hr : Room k A1.in1) (fr : A1.frames = X.A.frames) (I : Inv X pins σ H s) (sm : Sim W ρ m H) (ek : m[j]? = some (.inst c fs)) (em : P.meth c "__len__" = some q) (er : Cc q [.ref j] m = .ok (.int n) m2)
    (h0 : 0 ≤ n) (h1 : n ≤ SZ) (hQ : ∀ b s' H' ρ', Inv X pins σ H' s' → Py.Ext W.K ρ m.length H ρ' m2.length H' → Sim W ρ' m2 H' → Q b s') :
    wpAny (model X.prog X.w) A1 (Builtin.List.listLengthHint (.ref (ρ j))) Q E' s := by
  obtain ⟨dx, us, q1, q2, q3, q4⟩ := sm.inst ek
  obtain ⟨g, fd, ps, M, F, B⟩ := hM c q em
  obtain ⟨mA, J, _⟩ := ins_get I.hok q1
  obtain ⟨od, J, _⟩ := J.look
  have hz : n.toNat ≤ sizeLine := by rw [← sz_line]; omega
  unfold Builtin.List.listLengthHint
  refine wpAny_bind (wpAny_bind (J.type.here ((PySem.W.looks_findIn I.kIn M.at_).here ?_)))
  refine PySem.W.KFB.if_not rfl ?_
  refine wpAny_ite_split (fun _ => ?_) (fun z => absurd rfl z)
  refine wpAny_bind (wpAny_rule ?_)
  refine wpAny_bind (wpAny_attempt (wpAny_mono (len_at (E' := fun _ _ => False) (Q := fun v H' => v = .int n ∧ ∃ ρ', Py.Ext W.K ρ m.length H ρ' m2.length H' ∧ Sim W ρ' m2 H') hW hM hr fr I sm ek em er h0 (by have : SZ = 16777216 := rfl; omega) fun ρ' H' a b => ⟨rfl, ρ', a, b⟩) (fun u s' hu => ?_) fun _ _ z => z.elim))
  obtain ⟨v, H', I', rv, ev, ρ', a, b⟩ := hu
  subst ev
  obtain ⟨t, rfl⟩ := rv
  dsimp only
  refine wpAny_bind (wpAny_of_eq (a := some n) rfl ?_)
  dsimp only
  rw [if_neg (by rw [notLongL hz]; simp)]
  exact wpAny_pure (hQ _ s' H' ρ' I' a b)

def rListO (P : Prog) (W : Wd) (Cc : Calls) : List V → Hp → VK → Prop := fun us H Q => ∃ ρ m v u, us = [u] ∧ Sim W ρ m H ∧ Rep W.K ρ m.length H v u ∧ PV W ρ m.length H (listR P Cc v m) Q
theorem listR_of {x : Val} {m : Mem} {R : Res Val → Prop} (h : R (listR P Cc x m)) (no : ¬ R .err) : ∃ l n m2 xs, iterL P x m = some l ∧ lenR P Cc x m = .ok (.int n) m2 ∧ n ≤ SZ ∧ m2.list l = some xs ∧ listR P Cc x m = .ok (.ref m2.length) (m2 ++ [.list xs]) := by
  have h0 := h
  unfold listR at h
  split at h
  · rename_i l e1
    split at h
    · rename_i n m2 e2
      split at h
      · rename_i hn
        split at h
        · rename_i xs e3
          refine ⟨l, n, m2, xs, e1, e2, hn, e3, ?_⟩
          unfold listR
          simp only [e1, e2, e3]
          rw [if_pos hn]
        · exact (no h).elim
      · exact (no h).elim
    · exact (no h).elim
  · exact (no h).elim
theorem call_listO (hc : X.calm = true) (hW : W.K = X.K) (hM : ∀ c0 q, P.meth c0 "__len__" = some q → MethOk X W Cc k c0 "__len__" q) (hI : ∀ c0 f, P.iter c0 = some f → IterOk X W c0 f) (hr : Room (k + 4) X.A) : CallR X (.type "list") (rListO P W Cc) := by
  intro pins s σ H xs us Q I rv h
  obtain ⟨ρ, m, v, u, rfl, sm, r, p⟩ := h
  obtain ⟨l, n, m2, ws, e1, e2, hn, e3, e⟩ := listR_of (R := fun r => PV W ρ m.length H r Q) p (fun z => z)
  rw [e] at p
  obtain ⟨j, c, fs, f, xs0, rfl, ek, ei, el, ex⟩ := iterL_of e1
  obtain ⟨_, c', fs', q, n', m2', z1, ek', em, er, h0, h1, e2'⟩ := lenR_of (R := fun r => r ≠ .err) (x := .ref j) (m := m) (P := P) (Cc := Cc) (by rw [e2]; simp) (by simp)
  cases z1
  rw [ek] at ek'
  cases ek'
  rw [e2] at e2'
  cases e2'
  obtain ⟨w, rfl, ru⟩ := vals1 rv
  cases r with
  | ref hj =>
  cases ru
  have hr2 : Room (k + 2) X.A.in1.in1 := hr.in1.in1
  have rw1 : Room 1 X.A.in1.in1 := hr2.mono (by omega)
  refine callType_codes (Q₁ := fun obj s₁ => obj = .ref s.heap.objs.size ∧ s₁ = { s with heap := s.heap.push { cls := .type "list", data := .seq #[] } }) PySem.F.called_list (PySem.F.typeCall_list_1 _) PySem.F.entry_list_init
    (code_list_new _ ⟨rfl, rfl⟩) fun obj s₁ h₁ => ?_
  obtain ⟨rfl, rfl⟩ := h₁
  have hS : (s.heap.push { cls := .type "list", data := .seq #[] }).get? s.heap.objs.size = some { cls := .type "list", data := .seq #[] } := Heap.get?_push_size _ rfl
  refine ⟨⟨_, hS, rfl⟩, PySem.F.args_list_init_2 _ _, ?_⟩
  have fr : H s.heap.objs.size = none := I.hok.fresh (Nat.le_refl _)
  generalize hq : s.heap.objs.size = qa at *
  have I1 : Inv X pins σ (upd H qa (.lst [])) { s with heap := s.heap.push { cls := .type "list", data := .seq #[] } } := by
    rw [← hq]; exact I.lnew (its := []) (t' := s.toks) .nil (Nat.zero_le _)
  show wpAny _ _ (do let old ← Builtin.List.listItems (.ref qa); Builtin.List.listUpdate (.ref qa) (fun _ => #[]); letGo old.toList.reverse; Builtin.List.listExtendWith (.ref qa) (.ref (ρ j)) .none) _ _ _
  refine wpAny_bind ?_
  unfold Builtin.List.listItems
  refine wpAny_bind (wpAny_seqItems hS rfl (wpAny_pure ?_))
  show wpAny _ _ (updateSeq qa (fun _ => #[]) >>= fun _ => letGo (#[] : Array Value).toList.reverse >>= fun _ => Builtin.List.listExtendWith (.ref qa) (.ref (ρ j)) .none) _ _ _
  refine wpAny_bind (wpAny_updateSeq hS rfl ?_)
  have I2 := I1.lset (f := fun _ => #[]) (its := []) (its' := []) (ys := []) (t' := s.toks) upd_same hS rfl .nil (Nat.zero_le _)
  rw [upd_upd] at I2
  refine wpAny_bind (wpAny_letGo ?_)
  -- the extension
  have sm2 : Sim W ρ m (upd H qa (.lst [])) := sm.laid fr
  have x2 : Py.Ext W.K ρ m.length H ρ m.length (upd H qa (.lst [])) := ext_laid fr
  obtain ⟨dx, us, q1, q2, q3, q4⟩ := sm2.inst ek
  have hne : qa ≠ ρ j := ne_of upd_same q1 (fun z => nomatch z)
  obtain ⟨mA, J, _⟩ := ins_get I2.hok q1
  obtain ⟨od, J, _⟩ := J.look
  unfold Builtin.List.listExtendWith
  refine wpAny_bind (J.type.here ?_)
  have g1 : Builtin.List.listSameRef (.ref qa) (.ref (ρ j)) = false := by simp [Builtin.List.listSameRef, hne]
  have g2 : (Value.ref (W.cad c) == Value.type "list") = false := rfl
  have g3 : (Value.ref (W.cad c) == Value.type "tuple") = false := rfl
  simp only [g1, g2, g3, Bool.or_false, Bool.false_eq_true, if_false]
  refine wpAny_bind (iter_at hW hI rw1 rfl I2 sm2 ek ei el ex fun it s3 f3 y3 I3 => ?_)
  have sm3 : Sim W ρ m (upd (upd H qa (.lst [])) it (ItO (ρ l) it 0)) := sm2.laid f3
  have x3 : Py.Ext W.K ρ m.length H ρ m.length (upd (upd H qa (.lst [])) it (ItO (ρ l) it 0)) := x2.trans (ext_laid f3)
  have hqi : qa ≠ it := fun z => by rw [← z, upd_same] at f3; cases f3
  refine wpAny_bind (wpAny_holding (own_hint (A1 := X.A.in1.in1) hW hM ((hr2.in1).mono (by omega)) rfl I3 sm3 ek em er h0 hn fun b s4 H4 ρ4 I4 x4 sm4 => ?_))
  obtain ⟨hl4, _, us4, b1, b2⟩ := sm4.list e3
  have hlm : l < m.length := (sm.list ex).1
  have a4 : ρ4 l = ρ l := x4.agree l hlm
  rw [a4] at b1
  have img : ∀ b, upd (upd H qa (.lst [])) it (ItO (ρ l) it 0) b ≠ none → ∀ i, i < m.length → ρ i = b → H b ≠ none := fun b _ i hi e => by
    obtain ⟨u, hu, _⟩ := sm.obj i m[i] (by simp [hi])
    rw [← e, hu]; simp
  have q4' : H4 qa = some (.lst []) := x4.frame qa _ (by rw [upd_ne hqi, upd_same]) fun i hi e => by
    have := img qa (by rw [upd_ne hqi, upd_same]; simp) i hi e
    exact this fr
  have i4' : H4 it = some (ItO (ρ l) it 0) := x4.frame it _ upd_same fun i hi e => by
    obtain ⟨u, hu, _⟩ := sm2.obj i m[i] (by simp [hi])
    rw [e, f3] at hu
    cases hu
  have nq : ρ l ≠ qa := fun z => by rw [z, q4'] at b1; cases b1; obtain ⟨u, hu, _⟩ := sm.obj l m[l] (by simp [hlm]); rw [z, fr] at hu; cases hu
  have ni : ρ l ≠ it := fun z => by rw [z, i4'] at b1; cases b1
  have hz4 : us4.length ≤ sizeLine := (I4.lstM b1).1
  have fin : ∀ H s, Inv X pins σ H s → (∀ b, b ≠ qa → b ≠ it → H b = H4 b) → H qa = some (.lst us4) → H it ≠ none → EP X pins σ Q (.ref qa) s := fun H5 s5 I5 f5 q5 i5 => by
    have hlen : (m2 ++ [Ob.list ws]).length = m2.length + 1 := by simp
    have H2none : ∀ i, i < m2.length → ρ4 i ≠ qa := fun i hi z => by
      by_cases hi' : i < m.length
      · have e := x4.agree i hi'
        rw [z] at e
        exact img qa (by rw [upd_ne hqi, upd_same]; simp) i hi' e.symm fr
      · have := x4.fresh i (by omega) hi
        rw [z, upd_ne hqi, upd_same] at this
        cases this
    have H2it : ∀ i, i < m2.length → ρ4 i ≠ it := fun i hi z => by
      by_cases hi' : i < m.length
      · obtain ⟨u, hu, _⟩ := sm2.obj i m[i] (by simp [hi'])
        have e := x4.agree i hi'
        rw [z] at e
        rw [← e, f3] at hu
        cases hu
      · have := x4.fresh i (by omega) hi
        rw [z, upd_same] at this
        cases this
    have tr : Tr W.K ρ4 m2.length H4 ρ4 m2.length H5 := by
      refine ⟨Nat.le_refl _, fun _ _ => rfl, fun a xs h => ?_, fun a u st h => ?_⟩
      · rcases h with (h | ⟨ob, h⟩) | h
        · exact .inl (.inl (by rw [f5 a (fun z => by rw [z, q4'] at h; cases h) (fun z => by rw [z, i4'] at h; cases h)]; exact h))
        · exact .inl (.inr ⟨ob, by rw [f5 a (fun z => by rw [z, q4'] at h; cases h) (fun z => by rw [z, i4'] at h; cases h)]; exact h⟩)
        · exact .inr h
      · rw [f5 a (fun z => by rw [z, q4'] at h; cases h; cases st) (fun z => by rw [z, i4'] at h; cases h; cases st)]; exact h
    have trs : ∀ a u, Stl u → H4 a = some u → H5 a = some u := fun a u st h => by
      rw [f5 a (fun z => by rw [z, q4'] at h; cases h; cases st) (fun z => by rw [z, i4'] at h; cases h; cases st)]; exact h
    have tr' : Tr W.K ρ4 m2.length H4 (fun i => if i = m2.length then qa else ρ4 i) (m2.length + 1) H5 := ⟨Nat.le_succ _, fun i hi => if_neg (Nat.ne_of_lt hi), tr.tups, tr.tupt⟩
    have at4 : ∀ i, i < m2.length → H4 (ρ4 i) ≠ none := fun i hi => by
      obtain ⟨u, hu, _⟩ := sm4.obj i m2[i] (by simp [hi])
      rw [hu]; simp
    have smf : Sim W (fun i => if i = m2.length then qa else ρ4 i) (m2 ++ [.list ws]) H5 := by
      refine ⟨fun a b ha hb e => ?_, fun i o h => ?_⟩
      · rw [hlen] at ha hb
        by_cases h1 : a = m2.length
        · by_cases h2 : b = m2.length
          · omega
          · have e' : qa = ρ4 b := by simpa [h1, h2] using e
            exact absurd e'.symm (H2none b (by omega))
        · by_cases h2 : b = m2.length
          · have e' : ρ4 a = qa := by simpa [h1, h2] using e
            exact absurd e' (H2none a (by omega))
          · have e' : ρ4 a = ρ4 b := by simpa [h1, h2] using e
            exact sm4.inj a b (by omega) (by omega) e'
      · rw [hlen]
        by_cases h1 : i < m2.length
        · rw [List.getElem?_append_left h1] at h
          obtain ⟨u, hu, ro⟩ := sm4.obj i o h
          refine ⟨u, ?_, ro.tr tr'⟩
          simp only [if_neg (Nat.ne_of_lt h1)]
          rw [f5 _ (H2none i h1) (H2it i h1)]; exact hu
        · have h2 : i = m2.length := by
            have := (List.getElem?_eq_some_iff.mp h).1
            simp at this; omega
          subst h2
          simp at h
          subst h
          exact ⟨_, by simp only [if_true]; exact q5, .list (b2.tr tr')⟩
    have xf : Py.Ext W.K ρ m.length H (fun i => if i = m2.length then qa else ρ4 i) (m2 ++ [Ob.list ws]).length H5 := by
      have x5 := x3.trans x4
      refine ⟨by rw [hlen]; exact Nat.le_succ_of_le x5.le, fun i hi => by rw [if_neg (Nat.ne_of_lt (Nat.lt_of_lt_of_le hi x5.le))]; exact x5.agree i hi, fun a xs h => tr.tups _ _ (x5.tups a xs h), fun a u k h => trs _ _ k (x5.tupt a u k h), fun b o h hn => ?_, fun b h => ?_, fun i g1 g2 => ?_⟩
      · have h4 := x5.frame b o h hn
        rw [f5 b (fun z => by rw [z, fr] at h; cases h) (fun z => by
          by_cases zq : it = qa
          · exact hqi zq.symm
          · rw [z] at h; rw [upd_ne zq, h] at f3; cases f3)]
        exact h4
      · have h4 := x5.keep b h
        by_cases z1 : b = qa
        · rw [z1, q5]; simp
        · by_cases z2 : b = it
          · rw [z2]; exact i5
          · rw [f5 b z1 z2]; exact h4
      · rw [hlen] at g2
        by_cases h1 : i = m2.length
        · simp only [h1, if_true]; exact fr
        · simp only [if_neg h1]; exact x5.fresh i g1 (by omega)
    exact ⟨.ref qa, H5, I5, rfl, p _ H5 _ xf smf (by
      have : V.ref qa = V.ref ((fun i => if i = m2.length then qa else ρ4 i) m2.length) := by simp
      rw [this]
      exact .ref (by rw [hlen]; exact Nat.lt_succ_self _))⟩
  have run : ∀ H s, Inv X pins σ H s → (∀ b, b ≠ qa → b ≠ it → H b = H4 b) → H qa = some (.lst []) → H it = some (ItO (ρ l) it 0) → H (ρ l) = some (.lst us4) →
      codeAny (model X.prog X.w) X.A.in1 (.builtin "list.extend.loop" ⟨[.ref qa, .ref it, .none], []⟩) (wants (fun r s₂ => r = .none ∧ EP X pins σ Q (.ref qa) s₂) X.xe) s := fun H s I f0 f1 f2 f3 =>
    Py.own_loop (A1 := X.A.in1) (H0 := H4) (I.ok.hd hc) hqi ni nq hz4 (fun H5 s5 I5 f5 q5 i5 => ⟨rfl, fin H5 s5 I5 f5 q5 i5⟩) us4.length 0 H s (by omega) (Nat.zero_le _) I f0 (by simpa using f1) f2 f3
  refine wpAny_ite_split (fun _ => ?_) (fun _ => wpAny_pure ⟨plainId_quiet PySem.F.plain_extend_loop _, run H4 s4 I4 (fun _ _ _ => rfl) q4' i4' b1⟩)
  refine wpAny_bind (wpAny_rule ?_)
  refine wpAny_bind ?_
  obtain ⟨z, its, k3, r3, hl3, e3⟩ := I4.lstM q4'
  cases r3
  show wpAny _ _ (updateSeq qa (·.push .none) >>= fun _ => updateSeq qa (·.pop)) _ _ _
  refine wpAny_bind (wpAny_updateSeq e3 rfl ?_)
  have I5 := I4.lset (f := (·.push Value.none)) (its' := [Value.none]) (ys := [.non]) (t' := s4.toks) q4' e3 (by simp) (.cons rfl .nil) (by rw [List.length_singleton, sizeLine_eq]; decide)
  obtain ⟨z4, its4, k4, r4, hl4, e4⟩ := I5.lstM upd_same
  obtain ⟨u4, rfl, ru4⟩ := r4.one
  refine wpAny_updateSeq e4 rfl ?_ (by show 1 ≤ sizeLine; rw [sizeLine_eq]; decide) (by show 0 ≤ sizeLine + 1; exact Nat.zero_le _)
  have I6 := I5.lset (f := (·.pop)) (its := [u4]) (its' := []) (ys := []) (t' := s4.toks) upd_same e4 (by rfl) .nil (Nat.zero_le _)
  rw [upd_upd] at I6
  refine wpAny_pure ⟨plainId_quiet PySem.F.plain_extend_loop _, run _ _ I6 (fun b h1 h2 => by rw [upd_ne h1]) upd_same (by rw [upd_ne (Ne.symm hqi)]; exact i4') (by rw [upd_ne nq]; exact b1)⟩
end
end Py

namespace Py
open PySem PySem.Spec PyProof.Rows L2

theorem lenR_nx {P : Prog} {Cc : Calls} {x : Val} {m m' : Mem} {c : PySem.Str} {fs} : lenR P Cc x m ≠ .exc c fs m' := by
  unfold lenR; split <;> (try split) <;> (try split) <;> (try split) <;> (try split) <;> simp
theorem listR_nx {P : Prog} {Cc : Calls} {x : Val} {m m' : Mem} {c : PySem.Str} {fs} : listR P Cc x m ≠ .exc c fs m' := by
  unfold listR; split <;> (try split) <;> (try split) <;> (try split) <;> simp

section
variable {X : Cx} {W : Wd} {wx : WX} {P : Prog} {Cc : Calls} {k : Nat} {a o : Expr} {fa fo : Loc → Mem → Res Val} {p pos apos : Pos}
theorem se_lenO (hW : W.K = X.K) (hM : ∀ c0 q, P.meth c0 "__len__" = some q → MethOk X W Cc k c0 "__len__" q) (hr : Room (k + 1) X.A) (hg : Gl X "len") (hm : X.mg "len" = none) (he : starEach [a] X.env = (false, eval a X.env) :: starEach [] X.env) (ha : SE X W wx a fa) :
    SE X W wx (.Call (.Name "len" p) [a] [] pos) (fun l m => (fa l m).bind fun x m1 => lenR P Cc x m1) := by
  obtain ⟨ta, pa, qa⟩ := ha.ex
  refine ⟨_, pe_callB (call_lenO hW hM hr) hg hm (by decide +kernel) (pa_cons pa pa_nil he) (by decide +kernel) (by decide +kernel) he rfl, fun σ H ρ l m Q ss s p => ?_⟩
  exact qa σ H ρ l m _ ss s ((Post.bind ss p).mono fun u H1 ⟨x, m1, ρ1, A, p1⟩ => ⟨ρ1, m1, x, u, rfl, A.sim, A.rep, p1.nx fun _ _ _ => lenR_nx⟩)
theorem se_listO (hc : X.calm = true) (hW : W.K = X.K) (hM : ∀ c0 q, P.meth c0 "__len__" = some q → MethOk X W Cc k c0 "__len__" q) (hI : ∀ c0 f, P.iter c0 = some f → IterOk X W c0 f) (hr : Room (k + 4) X.A) (hg : Gl X "list") (hm : X.mg "list" = none)
    (he : starEach [a] X.env = (false, eval a X.env) :: starEach [] X.env) (ha : SE X W wx a fa) :
    SE X W wx (.Call (.Name "list" p) [a] [] pos) (fun l m => (fa l m).bind fun x m1 => listR P Cc x m1) := by
  obtain ⟨ta, pa, qa⟩ := ha.ex
  refine ⟨_, pe_callTy (call_listO hc hW hM hI hr) hg hm (by decide +kernel) (pa_cons pa pa_nil he) (by decide +kernel) (by decide +kernel) he rfl, fun σ H ρ l m Q ss s p => ?_⟩
  exact qa σ H ρ l m _ ss s ((Post.bind ss p).mono fun u H1 ⟨x, m1, ρ1, A, p1⟩ => ⟨ρ1, m1, x, u, rfl, A.sim, A.rep, p1.nx fun _ _ _ => listR_nx⟩)

/-! join -/
theorem strs_of {K : PySem.W.Frag} {ρ : Nat → Addr} {n : Nat} {H : Hp} : ∀ {xs : List Val} {us : List V} {ys : List (List Nat)}, RepL K ρ n H xs us → strsOf xs = some ys → us = (ys.map sv).map V.str ∧ ∀ y ∈ ys, okS y = true
  | _, _, ys, .nil, e => by cases e; exact ⟨rfl, fun y hy => by cases hy⟩
  | _, _, ys, .cons h t, e => by
    cases h with
    | str s hs =>
      simp only [strsOf] at e
      obtain ⟨zs, e1, e2⟩ := Option.map_eq_some_iff.mp e
      subst e2
      obtain ⟨a, b⟩ := strs_of t e1
      rw [a]
      refine ⟨rfl, fun y hy => ?_⟩
      rcases List.mem_cons.mp hy with h | h
      · rw [h]; exact hs
      · exact b y h
    | _ => simp [strsOf] at e
theorem join_tl (s : List Nat) : ∀ ys : List (List Nat), TL.joinL s ys = joinL s ys
  | [] => rfl
  | [x] => rfl
  | x :: y :: r => by
    unfold TL.joinL joinL
    rw [join_tl s (y :: r), List.append_assoc]
theorem join_sv (s : List Nat) (ys : List (List Nat)) : Txt.join (sv s) (ys.map sv) = sv (joinL s ys) := by
  rw [TL.join_eq, ← sv_of (PySem.Str.join (sv s) (ys.map sv))]
  have h := TL.tl_join (sv s) (ys.map sv)
  rw [List.map_map] at h
  have e : (TL.tl ∘ sv) = id := by funext z; exact sv_list z
  rw [e, List.map_id, join_tl] at h
  have h2 : (PySem.Str.join (sv s) (ys.map sv)).cps.toList = joinL (sv s).cps.toList ys := h
  rw [h2, sv_list]
theorem okS_join {s : List Nat} (hs : okS s = true) : ∀ ys : List (List Nat), (∀ y ∈ ys, okS y = true) → okS (joinL s ys) = true
  | [], _ => rfl
  | [x], h => h x List.mem_cons_self
  | x :: y :: r, h => by
    unfold joinL
    exact okS_app (okS_app (h x List.mem_cons_self) hs) (okS_join hs (y :: r) fun z hz => h z (List.mem_cons_of_mem _ hz))
def smN : SM → String
  | .find => "find" | .rfind => "rfind"
def rSm (f : SM) : V → List V → Hp → VK → Prop := fun x xs H Q => ∃ s t, x = .str (sv s) ∧ xs = [.str (sv t)] ∧ Q (match smop f s t with | .int i => .int i | _ => .non) H
theorem m_sm (f : SM) : MtR X ("str." ++ smN f) (rSm f) := by
  intro pins s σ H x xs v us Q I rx rs h
  obtain ⟨a, b, e1, e2, q⟩ := h
  cases f with
  | find => exact mt_find pins s σ H x xs v us Q I rx rs ⟨_, _, e1, e2, q⟩
  | rfind => exact mt_rfind pins s σ H x xs v us Q I rx rs ⟨_, _, e1, e2, q⟩
theorem se_sm1 {f : SM} (hW : W.K = X.K) (hb : attributeBase o (smN f) X.env (eval o X.env) = eval o X.env) (hl : (apos.endLine == pos.line) = true) (he : starEach [a] X.env = [(false, eval a X.env)]) (ho : SE X W wx o fo) (ha : SE X W wx a fa) :
    SE X W wx (.Call (.Attribute o (smN f) apos) [a] [] pos) (fun l m => (fo l m).bind fun x m1 => strR x fun s => (fa l m1).bind fun y m2 => strR y fun t => .ok (smop f s t) m2) := by
  obtain ⟨to, po, qo⟩ := ho.ex
  obtain ⟨ta, pa, qa⟩ := ha.ex
  have pe : PE X (.Call (.Attribute o (smN f) apos) [a] [] pos) (tM1 (rSm f) to ta) := by
    cases f with
    | find => exact pe_m1 F.slot_str_find F.type_str_find (m_sm .find) po pa he hb hl
    | rfind => exact pe_m1 F.slot_str_rfind F.type_str_rfind (m_sm .rfind) po pa he hb hl
  refine ⟨_, pe, fun σ H ρ l m Q ss s p => ?_⟩
  refine qo σ H ρ l m _ ss s ((Post.bind ss p).mono fun u H1 ⟨x, m1, ρ1, A, p1⟩ => ?_)
  unfold strR at p1
  split at p1
  · rename_i t
    have rA := A.rep
    cases rA with
    | str _ hs =>
    refine ⟨⟨sv t, rfl⟩, qa σ H1 ρ1 l m1 _ A.ss A.sim ((Post.bind A.ss p1).mono fun w H2 ⟨y, m2, ρ2, B, p2⟩ => ?_)⟩
    split at p2
    · rename_i t2
      have rB := B.rep
      cases rB with
      | str _ hs2 =>
      cases f with
      | find => exact ⟨t, t2, rfl, rfl, B.sim.one p2 (.int _)⟩
      | rfind => exact ⟨t, t2, rfl, rfl, B.sim.one p2 (.int _)⟩
    · exact p2.elim
  · exact p1.elim
theorem se_join (hW : W.K = X.K) (hb : attributeBase o "join" X.env (eval o X.env) = eval o X.env) (hl : (apos.endLine == pos.line) = true) (he : starEach [a] X.env = [(false, eval a X.env)]) (ho : SE X W wx o fo) (ha : SE X W wx a fa) :
    SE X W wx (.Call (.Attribute o "join" apos) [a] [] pos) (fun l m => gc m ((fo l m).bind fun x m1 => strR x fun s => (fa l m1).bind fun y m2 => joinR s y m2)) := by
  obtain ⟨to, po, qo⟩ := ho.ex
  obtain ⟨ta, pa, qa⟩ := ha.ex
  refine ⟨_, pe_join po pa he hb hl, fun σ H ρ l m Q ss s p => ?_⟩
  refine qo σ H ρ l m _ ss s ((Post.bind ss (gc_ok s p)).mono fun u H1 ⟨x, m1, ρ1, A, p1⟩ => ?_)
  unfold strR at p1
  split at p1
  · rename_i t
    have rA := A.rep
    cases rA with
    | str _ hs =>
    refine ⟨⟨sv t, rfl⟩, qa σ H1 ρ1 l m1 _ A.ss A.sim ((Post.bind A.ss p1).mono fun w H2 ⟨y, m2, ρ2, B, p2⟩ => ?_)⟩
    unfold joinR at p2
    split at p2
    · rename_i ys e
      split at p2
      · rename_i hz
        obtain ⟨xs, e1, e2⟩ := Option.bind_eq_some_iff.mp e
        obtain ⟨b, us, e3, e4, rl⟩ := B.sim.seq B.rep e1
        obtain ⟨e5, e6⟩ := strs_of rl e2
        subst e3 e5
        refine ⟨sv t, b, ys.map sv, rfl, rfl, by rw [← hW]; exact e4, ?_, ?_⟩
        · rw [sv_len, List.length_map, List.map_map]
          have : ((fun x : PySem.Str => x.length) ∘ sv) = List.length := by funext z; exact sv_len z
          rw [this]; exact hz
        · rw [join_sv]
          exact B.sim.one p2 (.str _ (okS_join hs ys e6))
      · exact p2.elim
    · exact p2.elim
  · exact p1.elim

/-! a field or a property -/
def PropOk (X : Cx) (W : Wd) (Cc : Calls) (k : Nat) (c0 f q : PySem.Str) : Prop :=
  ∃ p g fd ps, PropOf X.K (W.cad c0) f p g ∧ FnOk X.prog X.w X.K X.mg X.base (L2.CX X.prog X.w) k g fd ps (spC W Cc q) ∧ Binds X.K fd ps []
theorem se_attrP (hW : W.K = X.K) {fn : PySem.Str} (hb : attributeBase o fn X.env (eval o X.env) = eval o X.env) (hP : ∀ c0 q, P.prop c0 fn = some q → PropOk X W Cc k c0 fn q) (hr : Room (k + 1) X.A) (ho : SE X W wx o fo) :
    SE X W wx (.Attribute o fn pos) (fun l m => (fo l m).bind fun x m1 => attrP P Cc fn x m1) := by
  obtain ⟨to, po, qo⟩ := ho.ex
  refine ⟨fun σ H Q => ∀ pins s, Inv X pins σ H s → to σ H fun x H1 => ∃ a, x = .ref a ∧ ∀ s1, Inv X pins σ H1 s1 → wpAny (model X.prog X.w) X.A (getAttr (.ref a) fn true) (EP X pins σ Q) X.xe s1, ⟨fun pins s σ H Q I h => ?_⟩, fun σ H ρ l m Q ss s p pins s0 I0 => ?_⟩
  · refine attr_of hb (thn (po.run pins s σ H _ I (h pins s I)) fun u s1 ⟨x, H1, I1, rx, a, ex, q⟩ => ?_)
    subst ex
    obtain rfl : u = Value.ref a := rx
    exact q s1 I1
  · refine qo σ H ρ l m _ ss s ((Post.bind ss p).mono fun u H1 ⟨x, m1, ρ1, A, p1⟩ => ?_)
    unfold attrP at p1
    split at p1
    · rename_i j
      split at p1
      · rename_i c0 fs ek
        obtain ⟨dx, us, q1, q2, q3, q4⟩ := A.sim.inst ek
        have rA := A.rep
        cases rA with
        | ref hj =>
        split at p1
        · rename_i q ep
          obtain ⟨p0, g, fd, ps, M, F, B⟩ := hP c0 q ep
          refine ⟨_, rfl, fun s1 I1 => ?_⟩
          split at p1
          · rename_i v m2 er
            refine getprop_ok (dvs := []) (ds := []) (E := NoE) I1 q1 (by rw [← hW]; exact q3) M F hr B .nil (fun _ _ _ _ _ _ _ ⟨_, _, _, _, _, _, _, _, _, _, _, _, z⟩ => z.elim) ⟨ρ1, m1, [.ref j], A.sim, .cons (.ref hj) .nil, ?_⟩
            rw [er]
            exact p1
          · exact p1.elim
        · split at p1
          · rename_i v ev
            obtain ⟨w, w1, w2⟩ := (q2.get fn).1 v ev
            refine ⟨_, rfl, fun s1 I1 => getattr_ok I1 q1 (by rw [← hW]; exact q3) (by rw [← hW]; exact q4 fn w w1) w1 fun u' s2 I2 ru => ⟨w, H1, I2, ru, A.sim.one p1 w2⟩⟩
          · exact p1.elim
      · exact p1.elim
    · exact p1.elim

/-! a walk by one's own __iter__ -/
theorem si_own {tg iter : Expr} (hW : W.K = X.K) (hI : ∀ c0 f, P.iter c0 = some f → IterOk X W c0 f) (hr : Room 1 X.A) (ho : SE X W wx iter fo) : SI X W wx tg iter (fun l m => (fo l m).bind fun x m1 => ownR P x m1) := by
  obtain ⟨to, po, qo⟩ := ho.ex
  refine ⟨fun σ H R => ∀ pins s, Inv X pins σ H s → to σ H fun x H1 => ∃ a, x = .ref a ∧ ∀ s1, Inv X pins σ H1 s1 → wpAny (model X.prog X.w) X.A (pyIter (.ref a)) (PIE X pins σ tg R) X.xe s1, ⟨fun pins s σ H R I h => ?_⟩, fun σ H ρ l m R ss s p pins s0 I0 => ?_⟩
  · refine thn (po.run pins s σ H _ I (h pins s I)) fun u s1 ⟨x, H1, I1, rx, a, ex, q⟩ => ?_
    subst ex
    obtain rfl : u = Value.ref a := rx
    exact q s1 I1
  · refine qo σ H ρ l m _ ss s ((Post.bindI ss p).mono fun u H1 ⟨x, m1, ρ1, A, p1⟩ => ?_)
    unfold ownR at p1
    split at p1
    · rename_i l1 e1
      split at p1
      · rename_i xs e2
        obtain ⟨j, c, fs, f, xs0, rfl, ek, ei, el, ex⟩ := iterL_of e1
        rw [e2] at ex
        cases ex
        have rA := A.rep
        cases rA with
        | ref hj =>
        refine ⟨_, rfl, fun s1 I1 => iter_at hW hI hr rfl I1 A.sim ek ei el e2 fun it s2 f2 y2 I2 => ?_⟩
        have eo := itO_get I2 upd_same
        have st : s2.heap.IsListIter it (ρ1 l1) 0 := ⟨_, eo, rfl, rfl⟩
        have I3 := ItX.inv_drop I2 upd_same
        rw [ItX.dropH_upd f2] at I3
        refine ⟨it, [it], _, _, H1, rfl, I3, turn_list (ρ1 l1) it, st, fun b hb => ?_, p1 ρ1 H1 _ Py.Ext.refl A.sim (by rw [← hW]; exact walks_list A.sim e2)⟩
        have e : b = it := by simpa using hb
        rw [e]
        have z := ItX.inv_fp I2 upd_same (Nat.le_trans I1.sz y2)
        rw [ItX.dropH_upd f2] at z
        exact z
      · exact p1.elim
    · exact p1.elim
end

/-! ### the def of such an __iter__ -/
def isGlS (sc : Scope) (x : PySem.Str) : Bool := match sc.names.lookup x with
  | some .globalImplicit => true
  | _ => false
def chkIter (fre : List PySem.Str) (sc : Scope) (b : List Stmt) (f : PySem.Str) : Bool := match b with
  | [.Return (some (.Call (.Name g _) [.Attribute (.Name x _) h _] [] _)) _] => decide (g = "iter") && decide (x = "self") && decide (h = f) && isGlS sc "iter" && fre.contains ("iter" : PySem.Str)
  | _ => false
theorem fnIt_ok {P : Program} {w : World} {K : PySem.W.Frag} {mg : PySem.Str → Option Value} {base : Heap} {x qual f : PySem.Str} {params : Arguments} {body : List Stmt} {scope : Scope} {g : Addr} {fd : FuncData} {N : List PySem.Str} {fre : List PySem.Str} {kws : List (PySem.Str × V)}
    (F : FunD K x qual params body scope [] kws g fd) (S : FnScope N ["self"] scope) (hN : N[0]? = some ("self" : PySem.Str)) (hc : chkIter fre scope body f = true) (hfre : ∀ x, fre.contains x = true → mg x = none) : FnIt P w K mg base g fd f := by
  obtain ⟨oc, od, dV, kV, doc, pm, an, cdv, ct, osl, rfl, lk, hcd, _, _⟩ := F.ex
  unfold chkIter at hc
  split at hc
  · rename_i g0 p0 x0 p1 h0 p2 p3 p4
    simp only [Bool.and_eq_true] at hc
    obtain ⟨⟨⟨⟨c1, c2⟩, c3⟩, c4⟩, c5⟩ := hc
    have c1 := of_decide_eq_true c1
    have c2 := of_decide_eq_true c2
    have c3 := of_decide_eq_true c3
    subst c1 c2 c3
    intro A outer s H args us vs Q hr e0 hb r hsp
    have hl : vs.length = [("self" : PySem.Str)].length := by
      obtain ⟨_, _, _, _, _, _, e, _⟩ := hsp
      rw [e]; rfl
    have KX : K.In s.heap := e0.mod.kin.keeps fun b o e => (e0.bs b o e).1
    have lim : s.heap.NoLimit := e0.mod.nolimit.keeps fun b o e => (e0.bs b o e).1
    have hkind : ∀ y ∈ [("self" : PySem.Str)].zip us, scope.names.lookup y.1 = some .local ∨ (scope.names.lookup y.1 = some .cell ∧ ((cellsFrom (s.heap.objs.size + 1) scope.names []).lookup y.1).isSome = true) := fun ⟨n, v⟩ hy => by
      rcases S.par n (List.of_mem_zip hy).1 with q | q
      · exact .inl q
      · exact .inr ⟨q, PySem.W.cellsFrom_some _ _ _ (.inl q)⟩
    refine codeAny_call_function hr.depth (KX _ _ lk) rfl S.co S.gen rfl (PySem.W.codeRec_of KX hcd) (hb _ _ _ _ ?_)
    refine wpAny_newFunctionEnv_cells S.kind hkind fun env he s1 y => ?_
    subst he
    refine ⟨lim.keeps y.toInCall.keep, codeAny_func ?_⟩
    have I : Inv (cxOf (L2.CX P w) P w K mg base N qual scope g cdv A outer s H NoE) [] (L2.start N vs) H s1 := inv_start S hr.hd e0 hl r y
    have hgl : Gl (cxOf (L2.CX P w) P w K mg base N qual scope g cdv A outer s H NoE) "iter" := by
      unfold isGlS at c4
      split at c4
      · assumption
      · cases c4
    have hvis : Vis (cxOf (L2.CX P w) P w K mg base N qual scope g cdv A outer s H NoE).env.scope "self" := (S.par "self" (List.Mem.head _)).elim (fun z => .inl z) (fun z => .inr (.inl z))
    have pr : PE (cxOf (L2.CX P w) P w K mg base N qual scope g cdv A outer s H NoE) (.Call (.Name "iter" p0) [.Attribute (.Name "self" p1) h0 p2] [] p3) _ :=
      pe_callB ItX.call_iterN hgl (hfre _ c5) (by decide +kernel) (pa_cons (pe_fld (pe_var (i := 0) hN hvis) rfl) pa_nil rfl) (by decide +kernel) (by decide +kernel)
    refine wpAny_mono ((pss_one (ps_ret (pos := p4) pr)).run [] s1 (L2.start N vs) H { nx := fun _ H' => Q .non H', rt := Q } I ?_) (fun fl s' hs => ?_) fun e s' hs => ?_
    · obtain ⟨a, C, dx, fs, l, xs, ev, ea, cC, nC, el, hq, q⟩ := hsp
      subst ev
      have hNe : ∃ r, N = ("self" : PySem.Str) :: r := by
        cases N with
        | nil => simp at hN
        | cons y ys => simp at hN; exact ⟨ys, by rw [hN]⟩
      obtain ⟨rest, eN⟩ := hNe
      have h00 : (L2.start N [V.ref a])[0]? = some (some (V.ref a)) := by
        rw [eN]; simp [L2.start]
      exact ⟨.ref a, h00, a, C, dx, fs, .ref l, rfl, ea, cC, nC, el, l, xs, rfl, hq, fun it h1 h2 => q it h1 h2⟩
    · have fin : ∀ {σ' : L2.St} {H' : Hp} {v : V} {u : Value}, Inv (cxOf (L2.CX P w) P w K mg base N qual scope g cdv A outer s H NoE) [] σ' H' s' → RelV v u → Q v H' → CE outer P w H s Q u s' :=
        fun {σ' H' v u} J rv q => ⟨v, H', J.os, J.bare, J.base, J.hok, rv, q⟩
      cases fl with
      | ret u =>
        obtain ⟨v, σ', H', J, rv, q⟩ := hs
        exact fin J rv q
      | next =>
        obtain ⟨σ', H', J, q⟩ := hs
        exact fin (v := V.non) (u := Value.none) J rfl q
      | brk =>
        obtain ⟨_, _, _, q⟩ := hs
        exact False.elim q
      | cont =>
        obtain ⟨_, _, _, q⟩ := hs
        exact False.elim q
    · refine wpAny_mono hs (fun a s' z => ?_) fun a s' z => ?_
      · obtain ⟨_, _, _, _, _, _, _, _, _, _, _, _, z⟩ := z
        exact z.elim
      · obtain ⟨_, _, _, _, _, _, _, _, _, _, _, _, z⟩ := z
        exact z.elim
  · cases hc
end Py

namespace Py
open PySem PySem.Spec PyProof.Rows L2

/-! ### tables of the module: dicts with texts for keys -/
def TabOk (w : World) (K : PySem.W.Frag) (mg : PySem.Str → Option Value) (t : PySem.Str) (rows : List (List Nat × Val)) : Prop :=
  ∃ d es n, mg t = some (.ref d) ∧ KDict K w d es n ∧ (∀ s, rows.lookup s = none → PySem.W.nsIn K d (sv s) = some none) ∧
    ∀ s v, rows.lookup s = some v → ∃ u v0, PySem.W.nsIn K d (sv s) = some (some u) ∧ RelV v0 u ∧ ∀ ρ n H, Rep K ρ n H v v0
theorem tinR_nx {P : Prog} {neg : Bool} {t : PySem.Str} {x : Val} {m m' : Mem} {c : PySem.Str} {fs} : tinR P neg t x m ≠ .exc c fs m' := by
  unfold tinR; split <;> (try split) <;> simp
theorem tixR_nx {P : Prog} {t : PySem.Str} {x : Val} {m m' : Mem} {c : PySem.Str} {fs} : tixR P t x m ≠ .exc c fs m' := by
  unfold tixR; split <;> (try split) <;> (try split) <;> simp
section
variable {X : Cx} {W : Wd} {wx : WX} {P : Prog} {a b : Expr} {fa fb : Loc → Mem → Res Val} {p pos tpos : Pos} {t : PySem.Str} {rows : List (List Nat × Val)} {elts : List Expr} {kk : Nat}
theorem tin_look (hW : W.K = X.K) (T : TabOk X.w X.K X.mg t rows) (hP : P.tab t = some rows) {neg : Bool} {ρ : Nat → Addr} {m : Mem} {H : Hp} {x : Val} {u : V} (r : Rep W.K ρ m.length H x u) {R : Res Val → Prop} (h : R (tinR P neg t x m)) (no : ¬ R .err) :
    ∃ s, x = .str s ∧ u = .str (sv s) ∧ tinR P neg t x m = .ok (.bool ((rows.lookup s).isSome != neg)) m := by
  unfold tinR at h
  split at h
  · rename_i s
    cases r with
    | str _ hs => exact ⟨s, rfl, rfl, by unfold tinR; simp only [hP]⟩
  · exact (no h).elim
theorem tab_at {d : Addr} {K : PySem.W.Frag} (h1 : ∀ s, rows.lookup s = none → PySem.W.nsIn K d (sv s) = some none) (h2 : ∀ s v, rows.lookup s = some v → ∃ u v0, PySem.W.nsIn K d (sv s) = some (some u) ∧ RelV v0 u ∧ ∀ ρ n H, Rep K ρ n H v v0) (s : List Nat) :
    ∃ r : Option Value, PySem.W.nsIn K d (sv s) = some r ∧ r.isSome = (rows.lookup s).isSome := by
  cases q : rows.lookup s with
  | none => exact ⟨none, h1 s q, rfl⟩
  | some v =>
    obtain ⟨u, v0, e, _⟩ := h2 s v q
    exact ⟨some u, e, rfl⟩
theorem sb_tin (hW : W.K = X.K) (T : TabOk X.w X.K X.mg t rows) (hP : P.tab t = some rows) (hg : Gl X t) (hd : (t == ("__debug__" : PySem.Str)) = false) (ha : SE X W wx a fa) :
    SB X W wx (.Compare a [.In] [.Name t p] pos) (fun l m => (fa l m).bind fun x m1 => tinR P false t x m1) := by
  obtain ⟨ta, pa, qa⟩ := ha.ex
  have T' := T
  obtain ⟨d, es, n, hm, D, h1, h2⟩ := T'
  constructor
  · refine ⟨_, pe_cmpR (op_in_kd D) pa (pe_glob hg hm (v := .ref d) rfl hd) rfl, fun σ H ρ l m Q ss s p => ?_⟩
    refine qa σ H ρ l m _ ss s ((Post.bind ss p).mono fun u H1 ⟨x, m1, ρ1, A, p1⟩ => ?_)
    obtain ⟨z, rfl, rfl, e⟩ := tin_look hW T hP A.rep (R := fun r => Post W wx σ ρ1 m1.length H1 r Q) p1 (fun z => z)
    rw [e] at p1
    obtain ⟨r, e1, e2⟩ := tab_at h1 h2 z
    exact ⟨sv z, r, rfl, rfl, e1, A.sim.one p1 (by rw [e2]; have : ((List.lookup z rows).isSome != false) = (List.lookup z rows).isSome := by cases (List.lookup z rows).isSome <;> rfl
                                                   rw [this]; exact .bool _)⟩
  · refine ⟨_, pt_cmpR (op_in_kd D) pa (pe_glob hg hm (v := .ref d) rfl hd) rfl, fun σ H ρ l m Q ss s p => ?_⟩
    refine qa σ H ρ l m _ ss s ((Post.bindT ss p).mono fun u H1 ⟨x, m1, ρ1, A, p1⟩ => ?_)
    obtain ⟨z, rfl, rfl, e⟩ := tin_look hW T hP A.rep (R := fun r => PostT W wx σ ρ1 m1.length H1 r Q) p1 (fun z => z)
    rw [e] at p1
    obtain ⟨r, e1, e2⟩ := tab_at h1 h2 z
    obtain ⟨k, e3, p3⟩ := p1
    cases e3
    exact ⟨sv z, r, rfl, rfl, e1, _, rfl, by rw [e2]; have : ((List.lookup z rows).isSome != false) = (List.lookup z rows).isSome := by cases (List.lookup z rows).isSome <;> rfl
                                             rw [← this]; exact p3 ρ1 H1 Ext.refl A.sim⟩
theorem sb_ntin (hW : W.K = X.K) (T : TabOk X.w X.K X.mg t rows) (hP : P.tab t = some rows) (hg : Gl X t) (hd : (t == ("__debug__" : PySem.Str)) = false) (ha : SE X W wx a fa) :
    SB X W wx (.Compare a [.NotIn] [.Name t p] pos) (fun l m => (fa l m).bind fun x m1 => tinR P true t x m1) := by
  obtain ⟨ta, pa, qa⟩ := ha.ex
  have T' := T
  obtain ⟨d, es, n, hm, D, h1, h2⟩ := T'
  constructor
  · refine ⟨_, pe_cmpR (op_notIn_kd D) pa (pe_glob hg hm (v := .ref d) rfl hd) rfl, fun σ H ρ l m Q ss s p => ?_⟩
    refine qa σ H ρ l m _ ss s ((Post.bind ss p).mono fun u H1 ⟨x, m1, ρ1, A, p1⟩ => ?_)
    obtain ⟨z, rfl, rfl, e⟩ := tin_look hW T hP A.rep (R := fun r => Post W wx σ ρ1 m1.length H1 r Q) p1 (fun z => z)
    rw [e] at p1
    obtain ⟨r, e1, e2⟩ := tab_at h1 h2 z
    exact ⟨sv z, r, rfl, rfl, e1, A.sim.one p1 (by rw [e2]; have : ((List.lookup z rows).isSome != true) = !(List.lookup z rows).isSome := by cases (List.lookup z rows).isSome <;> rfl
                                                   rw [this]; exact .bool _)⟩
  · refine ⟨_, pt_cmpR (op_notIn_kd D) pa (pe_glob hg hm (v := .ref d) rfl hd) rfl, fun σ H ρ l m Q ss s p => ?_⟩
    refine qa σ H ρ l m _ ss s ((Post.bindT ss p).mono fun u H1 ⟨x, m1, ρ1, A, p1⟩ => ?_)
    obtain ⟨z, rfl, rfl, e⟩ := tin_look hW T hP A.rep (R := fun r => PostT W wx σ ρ1 m1.length H1 r Q) p1 (fun z => z)
    rw [e] at p1
    obtain ⟨r, e1, e2⟩ := tab_at h1 h2 z
    obtain ⟨k, e3, p3⟩ := p1
    cases e3
    exact ⟨sv z, r, rfl, rfl, e1, _, rfl, by rw [e2]; have : ((List.lookup z rows).isSome != true) = !(List.lookup z rows).isSome := by cases (List.lookup z rows).isSome <;> rfl
                                             rw [← this]; exact p3 ρ1 H1 Ext.refl A.sim⟩
theorem se_tix (hW : W.K = X.K) (T : TabOk X.w X.K X.mg t rows) (hP : P.tab t = some rows) (hg : Gl X t) (hd : (t == ("__debug__" : PySem.Str)) = false) (hs : PlainIx a) (ha : SE X W wx a fa) :
    SE X W wx (.Subscript (.Name t p) a pos) (fun l m => (fa l m).bind fun x m1 => tixR P t x m1) := by
  obtain ⟨ta, pa, qa⟩ := ha.ex
  obtain ⟨d, es, n, hm, D, h1, h2⟩ := T
  refine ⟨_, pe_ix ix_kdict (pe_glob hg hm (v := .ref d) rfl hd) pa hs, fun σ H ρ l m Q ss s p => ?_⟩
  refine qa σ H ρ l m _ ss s ((Post.bind ss p).mono fun u H1 ⟨x, m1, ρ1, A, p1⟩ => ?_)
  unfold tixR at p1
  split at p1
  · rename_i z
    have rA := A.rep
    cases rA with
    | str _ hz =>
    rw [hP] at p1
    simp only at p1
    split at p1
    · rename_i v e
      obtain ⟨u0, v0, e1, e2, e3⟩ := h2 z v e
      exact ⟨d, sv z, v0, rfl, rfl, ⟨es, n, u0, D.at_, D.lit, e1, e2⟩, A.sim.one p1 (by rw [hW]; exact e3 _ _ _)⟩
    · exact p1.elim
  · exact p1.elim

/-! ### zip of two tuples -/
theorem zip_get {xs ys : List Val} {i : Nat} {v : Val} (h : ((xs.zip ys).map fun p => Val.tup [p.1, p.2])[i]? = some v) : ∃ x y, xs[i]? = some x ∧ ys[i]? = some y ∧ v = .tup [x, y] := by
  rw [List.getElem?_map] at h
  obtain ⟨⟨x, y⟩, h1, h2⟩ := Option.map_eq_some_iff.mp h
  obtain ⟨a, b⟩ := List.getElem?_zip_eq_some.mp h1
  exact ⟨x, y, a, b, h2.symm⟩
theorem walks_zip {ρ : Nat → Addr} {m : Mem} {H : Hp} {a b : Addr} {us ws : List V} {xs ys : List Val} (h : SqT W.K H a us) (r : RepL W.K ρ m.length H xs us) (h' : SqT W.K H b ws) (r' : RepL W.K ρ m.length H ys ws) :
    WalksOn W (RZ.ItzT W.K a b) ((xs.zip ys).map fun p => Val.tup [p.1, p.2]) none ρ m.length H := by
  refine ⟨fun i ρ1 m1 H1 v x s1 _ hv => ?_, fun i ρ1 m1 H1 x s1 _ hi => ?_⟩
  · obtain ⟨vx, vy, g1, g2, ev⟩ := zip_get hv
    have q := x.tups a us h
    have q' := x.tups b ws h'
    obtain ⟨u, k1, k2⟩ := (r.tr x.toTr).get g1
    obtain ⟨w, k3, k4⟩ := (r'.tr x.toTr).get g2
    refine ⟨⟨us, ws, u, w, q, q', k1, k3⟩, fun z H' ⟨T, ux, uy, ez, hT, eH, hx, hy⟩ => ?_⟩
    have e1 := hx us q
    have e2 := hy ws q'
    rw [k1] at e1
    rw [k3] at e2
    cases e1
    cases e2
    subst ez eH ev
    exact ⟨.inr ⟨T, _, hT, rfl⟩, .tup (.inl upd_same) (.cons (k2.ext (ext_laid hT)) (.cons (k4.ext (ext_laid hT)) .nil))⟩
  · rw [List.length_map, List.length_zip] at hi
    refine ⟨us, ws, x.tups a us h, x.tups b ws h', ?_⟩
    rw [← r.length, ← r'.length]
    omega
theorem si_zip (hW : W.K = X.K) (hg : Gl X "zip") (hm : X.mg "zip" = none) (hs1 : starEach [a, b] X.env = (false, eval a X.env) :: starEach [b] X.env) (hs2 : starEach [b] X.env = (false, eval b X.env) :: starEach [] X.env)
    (ha : SE X W wx a fa) (hb : SE X W wx b fb) : SI X W wx (.Tuple elts kk tpos) (.Call (.Name "zip" p) [a, b] [] pos) (fun l m => (fa l m).bind fun x m1 => (fb l m1).bind fun y m2 => zipR x y m2) := by
  obtain ⟨ta, pa, qa⟩ := ha.ex
  obtain ⟨tb, pb, qb⟩ := hb.ex
  refine ⟨_, RZ.pi_zipA hg hm (pa_cons pa (pa_cons pb pa_nil hs2) hs1) hs1 (by rw [hs2]; rfl), fun σ H ρ l m R ss s po => ?_⟩
  refine qa σ H ρ l m _ ss s ((Post.bindI ss po).mono fun u H1 ⟨x, m1, ρ1, A, p1⟩ => ?_)
  refine qb σ H1 ρ1 l m1 _ A.ss A.sim ((Post.bindI A.ss p1).mono fun w H2 ⟨y, m2, ρ2, B, p2⟩ => ?_)
  unfold zipR at p2
  split at p2
  · have rA := A.rep.ext B.ext
    have rB := B.rep
    cases rA with
    | tup hx rl =>
      cases rB with
      | tup hy rl' =>
        refine ⟨_, _, _, _, rfl, .inr ⟨by rw [← hW]; exact sqT_of hx, by rw [← hW]; exact sqT_of hy, ?_⟩⟩
        rw [← hW]
        exact p2 ρ2 H2 _ Ext.refl B.sim (walks_zip (sqT_of hx) rl (sqT_of hy) rl')
  · exact p2.elim
end
end Py

namespace Py
open PySem PySem.Spec PyProof.Rows L2

/-! ### dicts with tuple keys -/
theorem eqv_key {x y : Val} {a b : Key} (h : KeyR x a) (h' : KeyR y b) : x.eqv y = decide (a = b) := by
  cases h with
  | int i =>
    cases h' with
    | int j =>
      unfold Val.eqv
      by_cases e : i = j
      · subst e; simp
      · have : ¬ ((Sum.inl i : Key) = Sum.inl j) := fun z => e (Sum.inl.inj z)
        simp [e, this]
    | str t _ =>
      unfold Val.eqv
      simp
  | str s _ =>
    cases h' with
    | int j => unfold Val.eqv; simp
    | str t _ =>
      unfold Val.eqv
      by_cases e : s = t
      · subst e; simp
      · have : ¬ ((Sum.inr (sv s) : Key) = Sum.inr (sv t)) := fun z => e (sv_inj (Sum.inr.inj z))
        simp [e, this]
theorem eqv_keys : ∀ {xs ys : List Val} {a b : List Key}, KeyRs xs a → KeyRs ys b → Val.eqvL xs ys = decide (a = b)
  | _, _, _, _, .nil, .nil => by unfold Val.eqvL; simp
  | _, _, _, _, .nil, .cons _ _ => by unfold Val.eqvL; simp
  | _, _, _, _, .cons _ _, .nil => by unfold Val.eqvL; simp
  | _, _, _, _, .cons h t, .cons h' t' => by
    unfold Val.eqvL
    rw [eqv_key h h', eqv_keys t t']
    simp [List.cons.injEq, Bool.decide_and]
section
variable {K : PySem.W.Frag} {ρ : Nat → Addr} {n : Nat} {H : Hp}
theorem eqv_tup {xs ys : List Val} {a b : List Key} (h : KeyRs xs a) (h' : KeyRs ys b) : (Val.tup xs).eqv (.tup ys) = decide (a = b) := by
  unfold Val.eqv
  exact eqv_keys h h'
theorem EntT.look {kvs : List (Val × Val)} {us : List (List Key × V)} (h : EntT K ρ n H kvs us) {xs : List Val} {k : List Key} (hk : KeyRs xs k) :
    (∀ v, dlook kvs (.tup xs) = some v → ∃ u, valV us k = some u ∧ Rep K ρ n H v u) ∧ (dlook kvs (.tup xs) = none → valV us k = none) := by
  induction h with
  | nil => exact ⟨fun v e => by unfold dlook at e; simp at e, fun _ => rfl⟩
  | @cons x y k1 u ps qs h1 h2 t ih =>
    have e0 := eqv_tup h1 hk
    by_cases e : k1 = k
    · have e1 : (Val.tup x).eqv (.tup xs) = true := by rw [e0]; simp [e]
      have e2 : dlook ((Val.tup x, y) :: ps) (.tup xs) = some y := by unfold dlook; rw [List.find?_cons_of_pos (by exact e1)]; rfl
      rw [e2, valV_pos e]
      exact ⟨fun v z => by cases z; exact ⟨u, rfl, h2⟩, fun z => by cases z⟩
    · have e1 : ¬ (Val.tup x).eqv (.tup xs) = true := by rw [e0]; simp [e]
      have e2 : dlook ((Val.tup x, y) :: ps) (.tup xs) = dlook ps (.tup xs) := by unfold dlook; rw [List.find?_cons_of_neg (by exact e1)]
      rw [e2, valV_neg e]
      exact ih
theorem EntT.look' {kvs : List (Val × Val)} {us : List (List Key × V)} (h : EntT K ρ n H kvs us) {xs : List Val} {k : List Key} (hk : KeyRs xs k) : (valV us k).isSome = (dlook kvs (.tup xs)).isSome := by
  obtain ⟨a, b⟩ := h.look hk
  cases e : dlook kvs (.tup xs) with
  | none => rw [b e]; rfl
  | some v =>
    obtain ⟨u, e1, _⟩ := a v e
    rw [e1]; rfl
theorem EntT.length {kvs : List (Val × Val)} {us : List (List Key × V)} (h : EntT K ρ n H kvs us) : kvs.length = us.length := by
  induction h with
  | nil => rfl
  | cons _ _ _ ih => simp [ih]
theorem EntT.append {kvs ps : List (Val × Val)} {us qs : List (List Key × V)} (h : EntT K ρ n H kvs us) (h' : EntT K ρ n H ps qs) : EntT K ρ n H (kvs ++ ps) (us ++ qs) := by
  induction h with
  | nil => exact h'
  | cons a b _ ih => exact .cons a b ih
theorem EntT.any {kvs : List (Val × Val)} {us : List (List Key × V)} (h : EntT K ρ n H kvs us) {xs : List Val} {k : List Key} (hk : KeyRs xs k) :
    (kvs.any fun p => p.1.eqv (.tup xs)) = us.any fun kv => decide (kv.1 = k) := by
  induction h with
  | nil => rfl
  | cons a b _ ih => rw [List.any_cons, List.any_cons, ih, eqv_tup a hk]
theorem EntT.repl {kvs : List (Val × Val)} {us : List (List Key × V)} (h : EntT K ρ n H kvs us) {xs : List Val} {k : List Key} (hk : KeyRs xs k) {v : Val} {u : V} (r : Rep K ρ n H v u) :
    EntT K ρ n H (kvs.map fun p => if p.1.eqv (.tup xs) = true then (p.1, v) else p) (us.map fun kv => if kv.1 = k then (kv.1, u) else kv) := by
  induction h with
  | nil => exact .nil
  | @cons x y k1 w ps qs h1 h2 t ih =>
    rw [List.map_cons, List.map_cons]
    have e0 := eqv_tup h1 hk
    by_cases e : k1 = k
    · have e1 : (Val.tup x).eqv (.tup xs) = true := by rw [e0]; simp [e]
      rw [if_pos (by exact e1), if_pos (by exact e)]
      exact .cons h1 r ih
    · have e1 : ¬ (Val.tup x).eqv (.tup xs) = true := by rw [e0]; simp [e]
      rw [if_neg (by exact e1), if_neg (by exact e)]
      exact .cons h1 h2 ih
theorem EntT.put {kvs : List (Val × Val)} {us : List (List Key × V)} (h : EntT K ρ n H kvs us) {xs : List Val} {k : List Key} (hk : KeyRs xs k) {v : Val} {u : V} (r : Rep K ρ n H v u) : EntT K ρ n H (dput kvs (.tup xs) v) (putK us k u) := by
  unfold dput putK
  rw [h.any hk]
  split
  · exact h.repl hk r
  · exact h.append (.cons hk r .nil)
theorem EntT.del {kvs : List (Val × Val)} {us : List (List Key × V)} (h : EntT K ρ n H kvs us) {xs : List Val} {k : List Key} (hk : KeyRs xs k) : EntT K ρ n H (ddel kvs (.tup xs)) (dropK us k) := by
  unfold ddel dropK
  induction h with
  | nil => exact .nil
  | @cons x y k1 w ps qs h1 h2 t ih =>
    have e0 := eqv_tup h1 hk
    by_cases e : k1 = k
    · have e1 : (Val.tup x).eqv (.tup xs) = true := by rw [e0]; simp [e]
      rw [List.filter_cons_of_neg (by simp [e1]), List.filter_cons_of_neg (by simp [e])]
      exact ih
    · have e1 : (Val.tup x).eqv (.tup xs) = false := by rw [e0]; simp [e]
      rw [List.filter_cons_of_pos (by simp [e1]), List.filter_cons_of_pos (by simp [e])]
      exact .cons h1 h2 ih
theorem keys_of : ∀ {xs : List Val} {vs : List V}, RepL K ρ n H xs vs → xs.all flatKey = true → ∃ k, KeyRs xs k ∧ vs = k.map kV
  | _, _, .nil, _ => ⟨[], .nil, rfl⟩
  | _, _, .cons h t, e => by
    rw [List.all_cons, Bool.and_eq_true] at e
    obtain ⟨k, h1, h2⟩ := keys_of t e.2
    subst h2
    cases h with
    | int i => exact ⟨.inl i :: k, .cons (.int i) h1, rfl⟩
    | str s hs => exact ⟨.inr (sv s) :: k, .cons (.str s hs) h1, rfl⟩
    | _ => cases e.1
theorem key_at {x : Val} {u : V} (hx : putOk true x = true) (r : Rep K ρ n H x u) : ∃ xs k b, x = .tup xs ∧ u = .ref b ∧ KeyRs xs k ∧ H b = some (.tup (k.map kV)) := by
  cases r with
  | tup h rl =>
    unfold putOk at hx
    rw [Bool.and_eq_true] at hx
    obtain ⟨k, h1, h2⟩ := keys_of rl hx.1
    subst h2
    rcases h with h | h
    · exact ⟨_, k, _, rfl, rfl, h1, h⟩
    · rw [hx.2] at h; cases h.2
  | _ => cases hx
end
section
variable {W : Wd} {ρ : Nat → Addr} {m : Mem} {H : Hp}
theorem Sim.dct {x : Val} {u : V} {k : Nat} {kvs : List (Val × Val)} (s : Sim W ρ m H) (r : Rep W.K ρ m.length H x u) (h : dctOf m x = some (k, kvs)) :
    x = .ref k ∧ u = .ref (ρ k) ∧ k < m.length ∧ m[k]? = some (.dict true kvs) ∧ ∃ us, H (ρ k) = some (.dT us) ∧ EntT W.K ρ m.length H kvs us := by
  unfold dctOf at h
  split at h
  · split at h
    · rename_i k0 kv0 e
      cases h
      cases r
      obtain ⟨u, a, q⟩ := s.obj _ _ e
      cases q with
      | dT q => exact ⟨rfl, rfl, (List.getElem?_eq_some_iff.mp e).1, e, _, a, q⟩
    · cases h
  · cases h
theorem nfd' {k : Nat} {kv0 : List (Val × Val)} (h : m[k]? = some (.dict true kv0)) : ∀ kvs, m[k]? ≠ some (.fdict kvs) := fun kvs z => by rw [h] at z; cases z
theorem Sim.newD {Q : VK} (s : Sim W ρ m H) (p : PV W ρ m.length H (.ok (.ref m.length) (m ++ [.dict true []])) Q) : ∀ a, H a = none → Q (.ref a) (upd H a (.dT [])) := fun a ha => by
  have hl : (m ++ [Ob.dict true []]).length = m.length + 1 := by simp
  refine p (fun i => if i = m.length then a else ρ i) _ _ (by rw [hl]; exact ext_new ha) (s.new ha (.dT .nil)) ?_
  have h := Rep.ref (K := W.K) (ρ := fun i => if i = m.length then a else ρ i) (n := (m ++ [Ob.dict true []]).length) (H := upd H a (.dT [])) (k := m.length) (by rw [hl]; exact Nat.lt_succ_self _)
  simp only [if_true] at h
  exact h
end
section
variable {X : Cx} {W : Wd} {wx : WX} {P : Prog} {a b c : Expr} {fa fb fc : Loc → Mem → Res Val} {p pos tpos apos : Pos}
theorem se_dnew : SE X W wx (.Dict [] [] pos) (fun _ m => .ok (.ref m.length) (m ++ [.dict true []])) :=
  ⟨_, pe_dnewT, fun σ H ρ l m Q ss s po p hp => s.newD (Q := Q) po p hp⟩
theorem se_dget (hu : X.A.units + 1 < cLine) (ha : SE X W wx a fa) (hb : SE X W wx b fb) (hs : NoSl b) :
    SE X W wx (.Subscript a b pos) (fun l m => (fa l m).bind fun x m1 => (fb l m1).bind fun y m2 => dgetR x y m2) := by
  obtain ⟨ta, pa, qa⟩ := ha.ex
  obtain ⟨tb, pb, qb⟩ := hb.ex
  refine ⟨_, pe_dget hu pa pb hs, fun σ H ρ l m Q ss s po => ?_⟩
  refine qa σ H ρ l m _ ss s ((Post.bind ss po).mono fun u H1 ⟨x, m1, ρ1, A, p1⟩ => ?_)
  refine qb σ H1 ρ1 l m1 _ A.ss A.sim ((Post.bind A.ss p1).mono fun w H2 ⟨y, m2, ρ2, B, p2⟩ => ?_)
  unfold dgetR at p2
  split at p2
  · rename_i k kvs e
    split at p2
    · rename_i hk
      split at p2
      · rename_i v ev
        obtain ⟨e1, e2, e3, e4, us, e5, e6⟩ := B.sim.dct (A.rep.ext B.ext) e
        obtain ⟨xs, ks, b0, g1, g2, g3, g4⟩ := key_at hk B.rep
        subst g1 g2 e2
        obtain ⟨u0, h1, h2⟩ := (e6.look g3).1 v ev
        exact ⟨_, u0, rfl, by rw [← h1]; exact .t e5 g4, B.sim.one p2 h2⟩
      · exact p2.elim
    · exact p2.elim
  · exact p2.elim
theorem din_eq (neg o : Bool) : (o != neg) = if neg = true then !o else o := by cases neg <;> cases o <;> rfl
theorem sb_din (hu : X.A.units + 1 < cLine) (hm : behindInMarks .In b = false) (ha : SE X W wx a fa) (hb : SE X W wx b fb) :
    SB X W wx (.Compare a [.In] [b] pos) (fun l m => (fa l m).bind fun x m1 => (fb l m1).bind fun y m2 => dinR false x y m2) := by
  obtain ⟨ta, pa, qa⟩ := ha.ex
  obtain ⟨tb, pb, qb⟩ := hb.ex
  have key : ∀ {m2 : Mem} {ρ2 : Nat → Addr} {H2 : Hp} {x y : Val} {u w : V} {R : Res Val → Prop}, Sim W ρ2 m2 H2 → Rep W.K ρ2 m2.length H2 x u → Rep W.K ρ2 m2.length H2 y w → R (dinR false x y m2) → ¬ R .err →
      ∃ a o, w = .ref a ∧ DGet H2 a u o ∧ dinR false x y m2 = .ok (.bool o.isSome) m2 := by
    intro m2 ρ2 H2 x y u w R s rx ry h no
    unfold dinR at h ⊢
    split at h
    · rename_i k kvs e
      split at h
      · rename_i hk
        obtain ⟨e1, e2, e3, e4, us, e5, e6⟩ := s.dct ry e
        obtain ⟨xs, ks, b0, g1, g2, g3, g4⟩ := key_at hk rx
        subst g1 g2 e2
        refine ⟨_, valV us ks, rfl, .t e5 g4, ?_⟩
        rw [if_pos hk, e6.look' g3]
        simp
      · exact (no h).elim
    · exact (no h).elim
  constructor
  · refine ⟨_, pe_cmp (pc_din hu pa pb) hm, fun σ H ρ l m Q ss s po => ?_⟩
    refine qa σ H ρ l m _ ss s ((Post.bind ss po).mono fun u H1 ⟨x, m1, ρ1, A, p1⟩ => ?_)
    refine qb σ H1 ρ1 l m1 _ A.ss A.sim ((Post.bind A.ss p1).mono fun w H2 ⟨y, m2, ρ2, B, p2⟩ => ?_)
    obtain ⟨a0, o, h1, h2, h3⟩ := key (R := fun r => Post W wx σ ρ2 m2.length H2 r Q) B.sim (A.rep.ext B.ext) B.rep p2 (fun z => z)
    rw [h3] at p2
    exact ⟨a0, o, h1, h2, B.sim.one p2 (.bool _)⟩
  · refine ⟨_, pt_cmp (pc_din hu pa pb) hm, fun σ H ρ l m Q ss s po => ?_⟩
    refine qa σ H ρ l m _ ss s ((Post.bindT ss po).mono fun u H1 ⟨x, m1, ρ1, A, p1⟩ => ?_)
    refine qb σ H1 ρ1 l m1 _ A.ss A.sim ((Post.bindT A.ss p1).mono fun w H2 ⟨y, m2, ρ2, B, p2⟩ => ?_)
    obtain ⟨a0, o, h1, h2, h3⟩ := key (R := fun r => PostT W wx σ ρ2 m2.length H2 r Q) B.sim (A.rep.ext B.ext) B.rep p2 (fun z => z)
    rw [h3] at p2
    obtain ⟨k, e3, p3⟩ := p2
    cases e3
    exact ⟨a0, o, h1, h2, _, rfl, p3 ρ2 H2 Ext.refl B.sim⟩
theorem sb_dnin (hu : X.A.units + 1 < cLine) (hm : behindInMarks .NotIn b = false) (ha : SE X W wx a fa) (hb : SE X W wx b fb) :
    SB X W wx (.Compare a [.NotIn] [b] pos) (fun l m => (fa l m).bind fun x m1 => (fb l m1).bind fun y m2 => dinR true x y m2) := by
  obtain ⟨ta, pa, qa⟩ := ha.ex
  obtain ⟨tb, pb, qb⟩ := hb.ex
  have key : ∀ {m2 : Mem} {ρ2 : Nat → Addr} {H2 : Hp} {x y : Val} {u w : V} {R : Res Val → Prop}, Sim W ρ2 m2 H2 → Rep W.K ρ2 m2.length H2 x u → Rep W.K ρ2 m2.length H2 y w → R (dinR true x y m2) → ¬ R .err →
      ∃ a o, w = .ref a ∧ DGet H2 a u o ∧ dinR true x y m2 = .ok (.bool (!o.isSome)) m2 := by
    intro m2 ρ2 H2 x y u w R s rx ry h no
    unfold dinR at h ⊢
    split at h
    · rename_i k kvs e
      split at h
      · rename_i hk
        obtain ⟨e1, e2, e3, e4, us, e5, e6⟩ := s.dct ry e
        obtain ⟨xs, ks, b0, g1, g2, g3, g4⟩ := key_at hk rx
        subst g1 g2 e2
        refine ⟨_, valV us ks, rfl, .t e5 g4, ?_⟩
        rw [if_pos hk, e6.look' g3]
        cases (dlook kvs (.tup xs)).isSome <;> rfl
      · exact (no h).elim
    · exact (no h).elim
  constructor
  · refine ⟨_, pe_cmp (pc_dnotin hu pa pb) hm, fun σ H ρ l m Q ss s po => ?_⟩
    refine qa σ H ρ l m _ ss s ((Post.bind ss po).mono fun u H1 ⟨x, m1, ρ1, A, p1⟩ => ?_)
    refine qb σ H1 ρ1 l m1 _ A.ss A.sim ((Post.bind A.ss p1).mono fun w H2 ⟨y, m2, ρ2, B, p2⟩ => ?_)
    obtain ⟨a0, o, h1, h2, h3⟩ := key (R := fun r => Post W wx σ ρ2 m2.length H2 r Q) B.sim (A.rep.ext B.ext) B.rep p2 (fun z => z)
    rw [h3] at p2
    exact ⟨a0, o, h1, h2, B.sim.one p2 (.bool _)⟩
  · refine ⟨_, pt_cmp (pc_dnotin hu pa pb) hm, fun σ H ρ l m Q ss s po => ?_⟩
    refine qa σ H ρ l m _ ss s ((Post.bindT ss po).mono fun u H1 ⟨x, m1, ρ1, A, p1⟩ => ?_)
    refine qb σ H1 ρ1 l m1 _ A.ss A.sim ((Post.bindT A.ss p1).mono fun w H2 ⟨y, m2, ρ2, B, p2⟩ => ?_)
    obtain ⟨a0, o, h1, h2, h3⟩ := key (R := fun r => PostT W wx σ ρ2 m2.length H2 r Q) B.sim (A.rep.ext B.ext) B.rep p2 (fun z => z)
    rw [h3] at p2
    obtain ⟨k, e3, p3⟩ := p2
    cases e3
    exact ⟨a0, o, h1, h2, _, rfl, p3 ρ2 H2 Ext.refl B.sim⟩
theorem se_dgetD (hu : X.A.units + 1 < cLine) (hm : M2 X a "get" apos b c pos) (ha : SE X W wx a fa) (hb : SE X W wx b fb) (hc : SE X W wx c fc) :
    SE X W wx (.Call (.Attribute a "get" apos) [b, c] [] pos) (fun l m => (fa l m).bind fun x m1 => isDctR x m1 ((fb l m1).bind fun y m2 => (fc l m2).bind fun w m3 => dgetDR x y w m3)) := by
  obtain ⟨ta, pa, qa⟩ := ha.ex
  obtain ⟨tb, pb, qb⟩ := hb.ex
  obtain ⟨tc, pc, qc⟩ := hc.ex
  refine ⟨_, pe_dget2 hu pa pb pc hm, fun σ H ρ l m Q ss s po => ?_⟩
  refine qa σ H ρ l m _ ss s ((Post.bind ss po).mono fun u H1 ⟨x, m1, ρ1, A, p1⟩ => ?_)
  unfold isDctR at p1
  split at p1
  · rename_i kk e0
    obtain ⟨k0, kv0⟩ := kk
    obtain ⟨f1, f2, f3, f4, us0, f5, f6⟩ := A.sim.dct A.rep e0
    refine ⟨_, f2, .inr ⟨us0, .inl f5⟩, ?_⟩
    refine qb σ H1 ρ1 l m1 _ A.ss A.sim ((Post.bind A.ss p1).mono fun w H2 ⟨y, m2, ρ2, B, p2⟩ => ?_)
    refine qc σ H2 ρ2 l m2 _ B.ss B.sim ((Post.bind B.ss p2).mono fun z H3 ⟨y3, m3, ρ3, C, p3⟩ => ?_)
    unfold dgetDR at p3
    split at p3
    · rename_i k kvs e
      split at p3
      · rename_i hk
        have rx := (A.rep.ext B.ext).ext C.ext
        rw [f2] at rx
        obtain ⟨e1, e2, e3, e4, us, e5, e6⟩ := C.sim.dct rx e
        have e2' := V.ref.inj e2
        obtain ⟨xs, ks, b0, g1, g2, g3, g4⟩ := key_at hk (B.rep.ext C.ext)
        subst g1 g2
        obtain ⟨l1, l2⟩ := e6.look g3
        cases ed : dlook kvs (.tup xs) with
        | none =>
          rw [ed] at p3
          exact ⟨none, by rw [e2', ← l2 ed]; exact .t e5 g4, C.sim.one p3 C.rep⟩
        | some v =>
          rw [ed] at p3
          obtain ⟨u0, h1, h2⟩ := l1 v ed
          exact ⟨some u0, by rw [e2', ← h1]; exact .t e5 g4, C.sim.one p3 h2⟩
      · exact p3.elim
    · exact p3.elim
  · exact p1.elim

/-! list(d) -/
theorem reps_key {K : PySem.W.Frag} {ρ : Nat → Addr} {n : Nat} {H : Hp} {xs : List Val} {k : List Key} (h : KeyRs xs k) : RepL K ρ n H xs (k.map kV) := by
  induction h with
  | nil => exact .nil
  | cons a _ ih =>
    refine .cons ?_ ih
    cases a with
    | int i => exact .int i
    | str s hs => exact .str s hs
theorem reps_keys {K : PySem.W.Frag} {ρ : Nat → Addr} {n : Nat} {H : Hp} {kvs : List (Val × Val)} {us : List (List Key × V)} (h : EntT K ρ n H kvs us) : ∀ {bs : List Addr}, IsKeys H us bs → RepL K ρ n H (kvs.map (·.1)) (bs.map V.ref) := by
  induction h with
  | nil =>
    intro bs h'
    cases h'
    exact .nil
  | @cons x y k1 w ps qs h1 h2 t ih =>
    intro bs h'
    cases h' with
    | cons e tt => exact .cons (.tup (.inl e) (reps_key h1)) (ih tt)
def rKeys (W : Wd) : List V → Hp → VK → Prop := fun us H Q => ∃ ρ m x u, us = [u] ∧ Sim W ρ m H ∧ Rep W.K ρ m.length H x u ∧ PV W ρ m.length H (keysR x m) Q
theorem b_keys (hc : X.calm = true) : CallR X (.type "list") (rKeys W) := by
  intro pins s σ H xs us Q I rx q
  obtain ⟨ρ, m, x, u, rfl, sm, r, p⟩ := q
  unfold keysR at p
  split at p
  · rename_i k kvs e
    obtain ⟨e1, e2, e3, e4, us0, e5, e6⟩ := sm.dct r e
    refine call_list_dT hc pins s σ H _ us Q I rx ⟨_, us0, by rw [e2], .inl e5, fun p0 bs h0 hk => ?_⟩
    exact sm.lst p (reps_keys e6 hk) p0 h0
  · exact (show False from p).elim
theorem keysR_nx {x : Val} {m m' : Mem} {c : PySem.Str} {fs} : keysR x m ≠ .exc c fs m' := by unfold keysR; split <;> simp
theorem se_keysD (hc : X.calm = true) (hg : Gl X "list") (hm : X.mg "list" = none) (he : starEach [a] X.env = (false, eval a X.env) :: starEach [] X.env) (ha : SE X W wx a fa) :
    SE X W wx (.Call (.Name "list" p) [a] [] pos) (fun l m => (fa l m).bind fun x m1 => keysR x m1) := by
  obtain ⟨ta, pa, qa⟩ := ha.ex
  refine ⟨_, pe_callTy (b_keys (W := W) hc) hg hm (by decide +kernel) (pa_cons pa pa_nil he) (by decide +kernel) (by decide +kernel) he rfl, fun σ H ρ l m Q ss s p => ?_⟩
  exact qa σ H ρ l m _ ss s ((Post.bind ss p).mono fun u H1 ⟨x, m1, ρ1, A, p1⟩ => ⟨ρ1, m1, x, u, rfl, A.sim, A.rep, p1.nx fun _ _ _ => keysR_nx⟩)

/-! sorted pairs of ints -/
theorem leP_iff {p q : Int × Int} : leP p q = true ↔ (p.1 < q.1 ∨ (p.1 = q.1 ∧ p.2 ≤ q.2)) := by unfold leP; simp
theorem insP_perm (p : Int × Int) : ∀ l, (insP p l).Perm (p :: l)
  | [] => .refl _
  | q :: r => by
    unfold insP
    split
    · exact .refl _
    · exact ((insP_perm p r).cons q).trans (.swap p q r)
theorem insP_srt (p : Int × Int) : ∀ {l : List (Int × Int)}, l.Pairwise (fun a b => leP a b = true) → (insP p l).Pairwise (fun a b => leP a b = true)
  | [], _ => by unfold insP; simp
  | q :: r, h => by
    unfold insP
    split
    · rename_i e
      refine List.pairwise_cons.mpr ⟨fun z hz => ?_, h⟩
      rcases List.mem_cons.mp hz with rfl | hz
      · exact e
      · have := leP_iff.mp ((List.pairwise_cons.mp h).1 z hz)
        have e := leP_iff.mp e
        refine leP_iff.mpr ?_
        omega
    · rename_i e
      refine List.pairwise_cons.mpr ⟨fun z hz => ?_, insP_srt p (List.pairwise_cons.mp h).2⟩
      rcases List.mem_cons.mp ((insP_perm p r).mem_iff.mp hz) with rfl | hz
      · have e : ¬ _ := fun t => e (leP_iff.mpr t)
        refine leP_iff.mpr ?_
        omega
      · exact (List.pairwise_cons.mp h).1 z hz
theorem sortPs_perm : ∀ l, (sortPs l).Perm l
  | [] => .refl _
  | p :: r => (insP_perm p (sortPs r)).trans ((sortPs_perm r).cons p)
theorem sortPs_srt : ∀ l, (sortPs l).Pairwise (fun a b => leP a b = true)
  | [] => .nil
  | p :: r => insP_srt p (sortPs_srt r)
theorem sortPs_uniq {l m : List (Int × Int)} (h : l.Perm m) (hl : l.Pairwise (fun a b => leP a b = true)) : l = sortPs m := by
  refine List.Perm.eq_of_pairwise (le := fun a b => leP a b = true) (fun a b _ _ h1 h2 => ?_) hl (sortPs_srt m) (h.trans (sortPs_perm m).symm)
  have h1 := leP_iff.mp h1
  have h2 := leP_iff.mp h2
  refine Prod.ext ?_ ?_ <;> omega
def kOf (H : Hp) (y : V) : Int × Int := match y with
  | .ref t => (match H t with
    | some (.tup [.int a, .int b]) => (a, b)
    | _ => (0, 0))
  | _ => (0, 0)
theorem pairs_rep {K : PySem.W.Frag} {ρ : Nat → Addr} {n : Nat} {H : Hp} : ∀ {xs : List Val} {us : List V} {ps : List (Int × Int)}, RepL K ρ n H xs us → pairsOf xs = some ps →
    us.map (kOf H) = ps ∧ ∀ u ∈ us, ∃ t, u = .ref t ∧ H t = some (.tup [.int (kOf H u).1, .int (kOf H u).2])
  | _, _, ps, .nil, e => by cases e; exact ⟨rfl, fun u hu => by cases hu⟩
  | _, _, ps, .cons h t, e => by
    unfold pairsOf at e
    split at e
    · rename_i e1; cases e1
    · rename_i a b r e1
      cases e1
      obtain ⟨qs, e2, e3⟩ := Option.map_eq_some_iff.mp e
      subst e3
      obtain ⟨i1, i2⟩ := pairs_rep t e2
      cases h with
      | @tup _ a1 _ hh rl =>
        cases rl with
        | cons ha rl =>
        cases rl with
        | cons hb rl =>
        cases rl
        cases ha
        cases hb
        rcases hh with hh | hh
        · have ek : kOf H (.ref a1) = (a, b) := by unfold kOf; simp only [hh]
          refine ⟨by rw [List.map_cons, i1, ek], fun u hu => ?_⟩
          rcases List.mem_cons.mp hu with rfl | hu
          · exact ⟨_, rfl, by rw [ek]; exact hh⟩
          · exact i2 u hu
        · cases hh.2
    · cases e
theorem rep_pairs {K : PySem.W.Frag} {ρ : Nat → Addr} {n : Nat} {H : Hp} (k : V → Int × Int) : ∀ {us : List V}, (∀ u ∈ us, ∃ t, u = .ref t ∧ H t = some (.tup [.int (k u).1, .int (k u).2])) → RepL K ρ n H ((us.map k).map pv) us
  | [], _ => .nil
  | u :: us, h => by
    obtain ⟨t, e1, e2⟩ := h u List.mem_cons_self
    refine .cons ?_ (rep_pairs k fun z hz => h z (List.mem_cons_of_mem _ hz))
    generalize k u = q at e2 ⊢
    subst e1
    exact .tup (.inl e2) (.cons (.int _) (.cons (.int _) .nil))
end
end Py

namespace Py
open PySem PySem.Spec PyProof.Rows L2 PySem.W
/-! ### keys, sorted -/
abbrev TKy := List (Int ⊕ List Nat)
def itU : Int ⊕ List Nat → V
  | .inl i => .int i
  | .inr s => .str (sv s)
def KR (H : Hp) (w : V) (t : TKy) : Prop := ∃ r, w = .ref r ∧ H r = some (.tup (t.map itU)) ∧ t ≠ []
def KRv (H : Hp) (v : Value) (t : TKy) : Prop := ∃ r, v = .ref r ∧ H r = some (.tup (t.map itU)) ∧ t ≠ []
theorem kr_vals {H : Hp} : ∀ {ws : List V} {ts : List TKy} {vs : List Value}, EachIs (KR H) ws ts → Vals ws vs → EachIs (KRv H) vs ts
  | _, _, _, .nil, .nil => .nil
  | _, _, _, .cons ⟨r, e, h, n⟩ t, .cons hv tv => by
    subst e
    refine .cons ⟨r, hv, h, n⟩ (kr_vals t tv)
theorem out_vals {H : Hp} : ∀ {vs : List Value} {ts : List TKy}, EachIs (KRv H) vs ts → ∃ ws, Vals ws vs ∧ EachIs (KR H) ws ts
  | _, _, .nil => ⟨[], .nil, .nil⟩
  | _, _, .cons ⟨r, e, h, n⟩ t => by
    subst e
    obtain ⟨ws, a, b⟩ := out_vals t
    exact ⟨V.ref r :: ws, .cons rfl a, .cons ⟨r, rfl, h, n⟩ b⟩
theorem reads_items {h : Heap} : ∀ {t : TKy} {its : List Value}, Vals (t.map itU) its → ReadsAll h its (t.map encI) []
  | [], _, .nil => .nil
  | .inl i :: t, _, .cons hv tv => by
    obtain ⟨k, rfl⟩ := hv
    exact ReadsAll.cons (.int i k) (reads_items tv)
  | .inr s :: t, _, .cons hv tv => by
    obtain ⟨k, rfl⟩ := hv
    exact ReadsAll.cons (.str _ k) (reads_items tv)
theorem depth_items : ∀ t : TKy, PyData.depthAll (t.map encI) = 0
  | [] => by simp [PyData.depthAll]
  | .inl i :: t => by
    rw [List.map_cons, PyData.depthAll, depth_items t]
    show max (PyData.depth (.int i)) 0 = 0
    simp [PyData.depth]
  | .inr s :: t => by
    rw [List.map_cons, PyData.depthAll, depth_items t]
    show max (PyData.depth (.str _)) 0 = 0
    simp [PyData.depth]
theorem depth_key (t : TKy) : (encK t).depth = 1 := by
  unfold encK
  rw [PyData.depth, depth_items]
section
variable {X : Cx}
theorem krv_reads {pins : List (Addr × Obj)} {σ : L2.St} {H : Hp} {s : Shared} (I : Inv X pins σ H s) {v : Value} {t : TKy} (h : KRv H v t) : Reads s.heap v (encK t) [] := by
  obtain ⟨r, rfl, ht, _⟩ := h
  obtain ⟨_, its, r2, o, ho, hc, n, hd⟩ := I.hok _ _ ht
  have ra := reads_items (h := s.heap) r2
  exact .tuple ho hc hd (by simpa using ra)
theorem EachIs.imp {α β : Type} {R S : α → β → Prop} (h : ∀ a b, R a b → S a b) : ∀ {as : List α} {bs : List β}, EachIs R as bs → EachIs S as bs
  | _, _, .nil => .nil
  | _, _, .cons a t => .cons (h _ _ a) (EachIs.imp h t)
theorem keys_alike {ts : List TKy} (h : alikeK ts = true) : AllAlike (ts.map encK) := by
  intro d hd d' hd'
  obtain ⟨b, hb, rfl⟩ := List.mem_map.mp hd
  obtain ⟨b', hb', rfl⟩ := List.mem_map.mp hd'
  exact List.all_eq_true.mp (List.all_eq_true.mp h b hb) b' hb'
theorem each_ne {H : Hp} : ∀ {ws : List V} {ts : List TKy}, EachIs (KR H) ws ts → ∀ t ∈ ts, t ≠ []
  | _, _, .cons ⟨_, _, _, n⟩ tl, t, ht => by
    rcases List.mem_cons.mp ht with rfl | ht
    · exact n
    · exact each_ne tl t ht
theorem keys_sortable {ts : List TKy} (h : ∀ t ∈ ts, t ≠ []) : Sortable (ts.map encK) := .inl fun d hd => by
  obtain ⟨b, hb, rfl⟩ := List.mem_map.mp hd
  cases b with
  | nil => exact absurd rfl (h _ hb)
  | cons x r => exact ⟨_, _, rfl⟩
def rSortKL (K : PySem.W.Frag) : List V → Hp → VK → Prop := fun vs H Q => ∃ (a : Addr) (xs : List V) (ts : List TKy), vs = [V.ref a] ∧ SqL K H a xs ∧ EachIs (KR H) xs ts ∧ alikeK ts = true ∧ ts.length ≤ sizeLine ∧
  ∀ ys p, EachIs (KR H) ys (sortKs ts) → H p = none → Q (.ref p) (upd H p (.lst ys))
theorem cr_sortedKL (hu : X.A.units + 65 < cLine) : CallR X (.builtin "sorted") (rSortKL X.K) := by
  intro pins s σ H vs us Q I r h
  obtain ⟨a, xs, ts, rfl, hs, hx, hal, hl, q⟩ := h
  obtain ⟨its, rv, hli, hz⟩ := I.list hs
  obtain ⟨u, rfl, ru⟩ := vals1 r
  obtain rfl : u = Value.ref a := ru
  have ev := kr_vals hx rv
  refine sorted_data (enc := encK) hli.isList ev (EachIs.imp (fun _ _ z => ⟨[], krv_reads I z⟩) ev) (keys_alike hal) (keys_sortable (each_ne hx)) hl (fun b _ => by rw [depth_key]; omega) fun out ho eo => ?_
  obtain ⟨ys, vy, ry⟩ := out_vals eo
  obtain ⟨c, hc⟩ := sortedAll_at s.heap its out.toArray
  have hlen : ys.length ≤ sizeLine := by rw [vy.length, ho]; exact hl
  exact ⟨.ref (s.heap.objs.size + 1), _, I.laid (t' := s.toks) (o := .lst ys) (fun _ _ => sortedAll_old) (Nat.le_succ _) ⟨hlen, out, c, vy, hc⟩, rfl, q ys _ ry (I.hok.fresh (Nat.le_succ _))⟩
def rSortKD : List V → Hp → VK → Prop := fun xs H Q => ∃ d kvs, xs = [V.ref d] ∧ Rd H d (.dT kvs) ∧ ∀ bs, IsKeys H kvs bs → ∃ ts : List TKy, EachIs (KR H) (bs.map V.ref) ts ∧ alikeK ts = true ∧
  ∀ ys p, EachIs (KR H) ys (sortKs ts) → H p = none → Q (.ref p) (upd H p (.lst ys))
theorem cr_sortedKD (hc : X.calm = true) (hu : X.A.units + 65 < cLine) : CallR X (.builtin "sorted") rSortKD := by
  intro pins s σ H xs us Q I r h
  obtain ⟨d, kvs, rfl, hd, q⟩ := h
  obtain ⟨u, rfl, rx⟩ := r.one
  cases rx
  obtain ⟨z, hs, ks, pr, o, es, ep, ho, hx, hdt, he, hn⟩ := (show ObjOk X.prog X.w H s.heap d (.dT kvs) from hd.ok I.hok)
  have l1 : es.size = ks.length := size_of_entries he
  have l2 : kvs.length = ks.length := Paired.length pr
  obtain ⟨ts, et, hal, q⟩ := q _ (isKeys_of pr)
  have ltk : ts.length = ks.length := by have := et.length; rw [List.length_map, List.length_map] at this; exact this.symm
  refine Calls.call_function_entry kind_sorted plain_sorted entry_sorted (args_sorted1 _) ?_
  unfold Builtin.«sorted»
  refine wpAny_bind (m := checkCount "sorted" 1 1 _) (wpAny_pure ?_)
  refine wpAny_bind (kdu_collect (A := X.A.in1) (kdl_raw hs hx hdt) (I.ok.hd hc) ho (by omega) fun h' tk acc' kp it => ?_)
  have hl : acc'.toList.length = ks.length := by rw [Array.length_toList, it.1]; exact l1
  have ea : acc'.toList = ks.map fun x => Value.ref x.2.1 := by
    apply List.ext_getElem?
    intro j
    rw [List.getElem?_map]
    cases hj : acc'.toList[j]? with
    | none =>
      have h1 := List.getElem?_eq_none_iff.mp hj
      rw [List.getElem?_eq_none (by omega)]
      all_goals rfl
    | some v =>
      obtain ⟨en, hen, hv⟩ := it.2 j v (by rw [← Array.getElem?_toList]; exact hj)
      have qe := entry_at he j
      rw [hen] at qe
      cases hb : ks[j]? with
      | none =>
        rw [hb] at qe
        exact nomatch (show some en = none from qe)
      | some b =>
        rw [hb] at qe
        have e2 : en = entryOfKey (tupleKind (mixKind X.prog X.w)) b := Option.some.inj qe
        rw [hv, e2]
        all_goals rfl
  have eb : acc'.toList = (ks.map fun x => x.2.1).map Value.ref := by rw [ea, List.map_map]; all_goals rfl
  have rv : Vals ((ks.map fun x => x.2.1).map V.ref) acc'.toList := by rw [eb]; exact vals_refs _
  have ev := kr_vals et rv
  refine wpAny_bind (wpAny_newList ?_ (by rw [hl]; omega))
  have hk2 : ∀ b o, s.heap.get? b = some o → (h'.push { cls := .type "list", data := .seq acc'.toList.toArray }).get? b = some o := fun b o e => Heap.get?_push_of_some _ (kp b o e)
  have hD : (h'.push { cls := .type "list", data := .seq acc'.toList.toArray }).get? h'.objs.size = some (seqObj "list" acc'.toList.toArray 0) := Heap.get?_push_size _ rfl
  have hDn : s.heap.get? h'.objs.size = none := by
    cases e : s.heap.get? h'.objs.size with
    | none => rfl
    | some o => exact absurd (Heap.lt_size (kp _ _ e)) (Nat.lt_irrefl _)
  have hHn : H h'.objs.size = none := (I.hok.kept kp).fresh (Nat.le_refl _)
  have hg := list_sort_data (prog := X.prog) (w := X.w) (A := X.A.in1) (E := X.xe) (s := { s with heap := h'.push { cls := .type "list", data := .seq acc'.toList.toArray }, toks := tk }) (enc := encK) (R := KRv H) (bs := ts) (vs := acc'.toList) (a := h'.objs.size) (n := 0)
    (Q := fun _ s' => EP X pins σ Q (.ref h'.objs.size) s') hD ev
    (EachIs.imp (fun _ _ z => ⟨[], Reads.keeps (fun b o e => hk2 b o e) (krv_reads I z), by simp⟩) ev) (keys_alike hal) (keys_sortable (each_ne et)) (by omega) (fun b _ => by rw [depth_key]; show X.A.units + 1 + 1 + 1 < cLine; omega) (fun out ho' eo => by
      obtain ⟨ys, vy, ry⟩ := out_vals eo
      obtain ⟨c, hc'⟩ := sortedHeap_at (vs := acc'.toList) (out := out.toArray) hD
      have hlen : ys.length ≤ sizeLine := by rw [vy.length, ho']; omega
      exact ⟨.ref h'.objs.size, _, I.laidN (t' := tk) (o := .lst ys) (fun b o e => (sortedHeap_old (fun z => by rw [z, hDn] at e; cases e) (Heap.lt_size (hk2 b o e))).trans (hk2 b o e)) hDn hHn ⟨hlen, out, c, vy, hc'⟩, rfl, q ys _ ry hHn⟩)
  refine wpAny_bind (wpAny_holding (wpAny_mono hg (fun _ s' x => ?_) fun _ _ e => e))
  exact wpAny_pure ⟨_, rfl, x⟩
def rSortKT (K : PySem.W.Frag) : List V → Hp → VK → Prop := fun vs H Q => ∃ (a : Addr) (xs : List V) (ts : List TKy), vs = [V.ref a] ∧ SqT K H a xs ∧ EachIs (KR H) xs ts ∧ alikeK ts = true ∧ ts.length ≤ sizeLine ∧
  ∀ ys p, EachIs (KR H) ys (sortKs ts) → H p = none → Q (.ref p) (upd H p (.lst ys))
theorem cr_sortedKT (hu : X.A.units + 65 < cLine) : CallR X (.builtin "sorted") (rSortKT X.K) := by
  intro pins s σ H vs us Q I r h
  obtain ⟨a, xs, ts, rfl, hs, hx, hal, hl, q⟩ := h
  obtain ⟨its, rv, ⟨o, ho, hoc, n, hod⟩, hz⟩ := I.tuple hs
  obtain ⟨u, rfl, ru⟩ := vals1 r
  obtain rfl : u = Value.ref a := ru
  have ev0 := kr_vals hx rv
  have lts : ts.length = its.length := ev0.length.symm
  refine Calls.call_function_entry kind_sorted plain_sorted entry_sorted (args_sorted1 _) ?_
  unfold Builtin.«sorted»
  refine wpAny_bind (m := checkCount "sorted" 1 1 _) (wpAny_pure ?_)
  refine wpAny_bind (wpAny_collect_seq a (.inr rfl) ho hoc hod (fun h' kp => ?_) (by rw [List.size_toArray]; omega))
  have ea : its.toArray.toList = its := by simp
  rw [ea]
  refine wpAny_bind (wpAny_newList ?_ (by omega))
  have hk2 : ∀ b o, s.heap.get? b = some o → (h'.push { cls := .type "list", data := .seq its.toArray }).get? b = some o := fun b o e => Heap.get?_push_of_some _ (kp b o e)
  have hD : (h'.push { cls := .type "list", data := .seq its.toArray }).get? h'.objs.size = some (seqObj "list" its.toArray 0) := Heap.get?_push_size _ rfl
  have hDn : s.heap.get? h'.objs.size = none := by
    cases e : s.heap.get? h'.objs.size with
    | none => rfl
    | some o => exact absurd (Heap.lt_size (kp _ _ e)) (Nat.lt_irrefl _)
  have hHn : H h'.objs.size = none := (I.hok.kept kp).fresh (Nat.le_refl _)
  have hg := list_sort_data (prog := X.prog) (w := X.w) (A := X.A.in1) (E := X.xe) (s := { s with heap := h'.push { cls := .type "list", data := .seq its.toArray } }) (enc := encK) (R := KRv H) (bs := ts) (vs := its) (a := h'.objs.size) (n := 0)
    (Q := fun _ s' => EP X pins σ Q (.ref h'.objs.size) s') hD ev0
    (EachIs.imp (fun _ _ z => ⟨[], Reads.keeps (fun b o e => hk2 b o e) (krv_reads I z), by simp⟩) ev0) (keys_alike hal) (keys_sortable (each_ne hx)) (by omega) (fun b _ => by rw [depth_key]; show X.A.units + 1 + 1 + 1 < cLine; omega) (fun out ho' eo => by
      obtain ⟨ys, vy, ry⟩ := out_vals eo
      obtain ⟨c, hc'⟩ := sortedHeap_at (vs := its) (out := out.toArray) hD
      have hlen : ys.length ≤ sizeLine := by rw [vy.length, ho']; omega
      exact ⟨.ref h'.objs.size, _, I.laidN (t' := s.toks) (o := .lst ys) (fun b o e => (sortedHeap_old (fun z => by rw [z, hDn] at e; cases e) (Heap.lt_size (hk2 b o e))).trans (hk2 b o e)) hDn hHn ⟨hlen, out, c, vy, hc'⟩, rfl, q ys _ ry hHn⟩)
  refine wpAny_bind (wpAny_holding (wpAny_mono hg (fun _ s' x => ?_) fun _ _ e => e))
  exact wpAny_pure ⟨_, rfl, x⟩
end
theorem items_rep {K : PySem.W.Frag} {ρ : Nat → Addr} {n : Nat} {H : Hp} : ∀ {xs : List Val} {us : List V} {t : TKy}, RepL K ρ n H xs us → itemsOf xs = some t → xs = t.map itV ∧ us = t.map itU
  | _, _, t, .nil, e => by cases e; exact ⟨rfl, rfl⟩
  | _, _, t, .cons h tl, e => by
    unfold itemsOf at e
    split at e
    · rename_i e1; cases e1
    · rename_i i r e1
      cases e1
      obtain ⟨t', e2, e3⟩ := Option.map_eq_some_iff.mp e
      subst e3
      obtain ⟨a, b⟩ := items_rep tl e2
      cases h
      exact ⟨by rw [a]; rfl, by rw [b]; rfl⟩
    · rename_i s r e1
      cases e1
      obtain ⟨t', e2, e3⟩ := Option.map_eq_some_iff.mp e
      subst e3
      obtain ⟨a, b⟩ := items_rep tl e2
      cases h
      exact ⟨by rw [a]; rfl, by rw [b]; rfl⟩
    · cases e
theorem keys_rep {K : PySem.W.Frag} {ρ : Nat → Addr} {n : Nat} {H : Hp} : ∀ {xs : List Val} {us : List V} {ts : List TKy}, RepL K ρ n H xs us → keysOf xs = some ts → EachIs (KR H) us ts ∧ ∀ t ∈ ts, RepL K ρ n H (t.map itV) (t.map itU)
  | _, _, ts, .nil, e => by cases e; exact ⟨.nil, fun t ht => by cases ht⟩
  | _, _, ts, .cons h tl, e => by
    unfold keysOf at e
    split at e
    · rename_i e1; cases e1
    · rename_i ys r e1
      cases e1
      split at e
      · rename_i kt
        obtain ⟨t, e2, e3⟩ := Option.bind_eq_some_iff.mp e
        obtain ⟨ts', e4, e5⟩ := Option.map_eq_some_iff.mp e3
        subst e5
        obtain ⟨a, b⟩ := keys_rep tl e4
        cases h with
        | @tup _ r1 us1 hh rl =>
          obtain ⟨i1, i2⟩ := items_rep rl e2
          subst i1 i2
          rcases hh with hh | hh
          · have ne : t ≠ [] := fun z => by subst z; cases kt
            refine ⟨.cons ⟨r1, rfl, hh, ne⟩ a, fun t' ht => ?_⟩
            rcases List.mem_cons.mp ht with rfl | ht
            · exact rl
            · exact b t' ht
          · rw [kt] at hh; cases hh.2
      · cases e
    · cases e
theorem rep_keys {K : PySem.W.Frag} {ρ : Nat → Addr} {n : Nat} {H : Hp} : ∀ {us : List V} {ts : List TKy}, EachIs (KR H) us ts → (∀ t ∈ ts, RepL K ρ n H (t.map itV) (t.map itU)) → RepL K ρ n H (ts.map fun t => .tup (t.map itV)) us
  | _, _, .nil, _ => .nil
  | _, _, .cons ⟨r, e, h, _⟩ t, hr => by
    subst e
    exact .cons (.tup (.inl h) (hr _ List.mem_cons_self)) (rep_keys t fun z hz => hr z (List.mem_cons_of_mem _ hz))
section
variable {X : Cx} {W : Wd} {wx : WX} {P : Prog} {a b c : Expr} {fa fb fc : Loc → Mem → Res Val} {p pos tpos apos : Pos}
def rSortP (W : Wd) : List V → Hp → VK → Prop := fun us H Q => ∃ ρ m x u, us = [u] ∧ Sim W ρ m H ∧ Rep W.K ρ m.length H x u ∧ PV W ρ m.length H (sortPR x m) Q
theorem b_sortP (hW : W.K = X.K) (hc : X.calm = true) (hu : X.A.units + 65 < cLine) : CallR X (.builtin "sorted") (rSortP W) := by
  intro pins s σ H xs us Q I rx q
  obtain ⟨ρ, m, x, u, rfl, sm, r, p⟩ := q
  unfold sortPR at p
  split at p
  · rename_i k
    split at p
    · rename_i vs e0
      have e1 : m.list k = some vs := by unfold Mem.list; rw [e0]
      obtain ⟨hk, _, ws, e4, rl⟩ := sm.list e1
      cases r
      split at p
      · rename_i ps e2
        obtain ⟨i1, i2⟩ := pairs_rep rl e2
        refine cr_sortedPO pins s σ H _ us Q I rx ⟨_, ws, kOf H, rfl, SqL.of e4, i2, fun ys p0 h1 h2 h0 => ?_⟩
        have hp : (ys.map (kOf H)).Perm ps := by rw [← i1]; exact h2.perm.map _
        have hs : (ys.map (kOf H)).Pairwise (fun a b => leP a b = true) := by
          refine List.pairwise_map.mpr (List.Pairwise.imp (fun {a b} hab => ?_) (show ys.Pairwise _ from h1))
          have z := SrtO.lexB_no.mp hab
          refine leP_iff.mpr ?_
          omega
        have e6 := sortPs_uniq hp hs
        refine sm.lst p ?_ p0 h0
        rw [← e6]
        exact rep_pairs (kOf H) fun u hu => i2 u (h2.perm.mem_iff.mp hu)
      · unfold sortKR at p
        split at p
        · rename_i ts e2
          split at p
          · rename_i hq
            obtain ⟨i1, i2⟩ := keys_rep rl e2
            refine cr_sortedKL hu pins s σ H _ us Q I rx ⟨_, ws, ts, rfl, SqL.of e4, i1, hq.1, by rw [← sz_line]; exact hq.2, fun ys p0 h1 h0 => ?_⟩
            refine sm.lst p (rep_keys h1 fun t ht => i2 t ((List.mergeSort_perm ts _).mem_iff.mp ht)) p0 h0
          · exact (show False from p).elim
        · exact (show False from p).elim
    · rename_i kvs e
      obtain ⟨e1, e2, e3, e4, us0, e5, e6⟩ := sm.dct r (show dctOf m (.ref k) = some (k, kvs) by unfold dctOf; simp only [e])
      unfold sortKR at p
      split at p
      · rename_i ts e7
        split at p
        · rename_i hq
          refine cr_sortedKD hc hu pins s σ H _ us Q I rx ⟨_, us0, by rw [e2], .inl e5, fun bs hk => ?_⟩
          obtain ⟨i1, i2⟩ := keys_rep (reps_keys e6 hk) e7
          exact ⟨ts, i1, hq.1, fun ys p0 h1 h0 => sm.lst p (rep_keys h1 fun t ht => i2 t ((List.mergeSort_perm ts _).mem_iff.mp ht)) p0 h0⟩
        · exact (show False from p).elim
      · exact (show False from p).elim
    · exact (show False from p).elim
  · rename_i vs
    cases r with
    | @tup _ _ ws ht rl =>
    unfold sortKR at p
    split at p
    · rename_i ts e2
      split at p
      · rename_i hq
        obtain ⟨i1, i2⟩ := keys_rep rl e2
        refine cr_sortedKT hu pins s σ H _ us Q I rx ⟨_, ws, ts, rfl, by rw [← hW]; exact sqT_of ht, i1, hq.1, by rw [← sz_line]; exact hq.2, fun ys p0 h1 h0 => ?_⟩
        refine sm.lst p (rep_keys h1 fun t ht => i2 t ((List.mergeSort_perm ts _).mem_iff.mp ht)) p0 h0
      · exact (show False from p).elim
    · exact (show False from p).elim
  · exact (show False from p).elim
theorem sortKR_nx {vs : List Val} {m m' : Mem} {c : PySem.Str} {fs} : sortKR vs m ≠ .exc c fs m' := by unfold sortKR; split <;> (try split) <;> simp
theorem sortPR_nx {x : Val} {m m' : Mem} {c : PySem.Str} {fs} : sortPR x m ≠ .exc c fs m' := by
  unfold sortPR
  split
  · split
    · split
      · simp
      · exact sortKR_nx
    · exact sortKR_nx
    · simp
  · exact sortKR_nx
  · simp
theorem se_sortP (hW : W.K = X.K) (hc : X.calm = true) (hu : X.A.units + 65 < cLine) (hg : Gl X "sorted") (hm : X.mg "sorted" = none) (he : starEach [a] X.env = (false, eval a X.env) :: starEach [] X.env) (ha : SE X W wx a fa) :
    SE X W wx (.Call (.Name "sorted" p) [a] [] pos) (fun l m => (fa l m).bind fun x m1 => sortPR x m1) := by
  obtain ⟨ta, pa, qa⟩ := ha.ex
  refine ⟨_, pe_callB (b_sortP (W := W) hW hc hu) hg hm (by decide +kernel) (pa_cons pa pa_nil he) (by decide +kernel) (by decide +kernel) he rfl, fun σ H ρ l m Q ss s p => ?_⟩
  exact qa σ H ρ l m _ ss s ((Post.bind ss p).mono fun u H1 ⟨x, m1, ρ1, A, p1⟩ => ⟨ρ1, m1, x, u, rfl, A.sim, A.rep, p1.nx fun _ _ _ => sortPR_nx⟩)
end
end Py

namespace Py
open PySem PySem.Spec PyProof.Rows L2

section
variable {K : PySem.W.Frag} {ρ ρ' ρ1 : Nat → Addr} {n n' n1 : Nat} {H H' H1 : Hp} {D : Addr} {o o' : HO}
/-- a thing of one's own, that no cell is, is changed -/
theorem Ext.own (x : Ext K ρ1 n1 H1 ρ n H) (h1 : H1 D = none) : Ext K ρ1 n1 H1 ρ n (upd H D o) where
  le := x.le
  agree := x.agree
  tups := fun a xs h => by
    have h' := x.tups a xs h
    have ne : ∀ {u : HO}, H1 a = some u → a ≠ D := fun e q => by rw [q, h1] at e; cases e
    rcases h with (h | ⟨ob, h⟩) | h
    · refine .inl (.inl ?_)
      rw [upd_ne (ne h)]
      exact x.tupt a _ (.tup xs) h
    · rcases h' with (h' | ⟨ob', h'⟩) | h'
      · exact .inl (.inl (by rw [upd_ne (ne h)]; exact h'))
      · exact .inl (.inr ⟨ob', by rw [upd_ne (ne h)]; exact h'⟩)
      · exact .inr h'
    · exact .inr h
  tupt := fun a u k h => by
    rw [upd_ne (fun q => by rw [q, h1] at h; cases h)]
    exact x.tupt a u k h
  frame := fun b u h hn => by
    rw [upd_ne (fun q => by rw [q, h1] at h; cases h)]
    exact x.frame b u h hn
  keep := fun b h => by
    by_cases e : b = D
    · rw [e, upd_same]; simp
    · rw [upd_ne e]; exact x.keep b h
  fresh := x.fresh
/-- the same from the state itself, as far as values go -/
theorem Tr.own {xs : List V} (h : H D = some (.lst xs)) : Tr K ρ n H ρ n (upd H D o) where
  le := Nat.le_refl _
  agree := fun _ _ => rfl
  tups := fun a ys h' => by
    rcases h' with (h' | ⟨ob, h'⟩) | h'
    · exact .inl (.inl (by rw [upd_ne (fun q => by rw [q, h] at h'; cases h')]; exact h'))
    · exact .inl (.inr ⟨ob, by rw [upd_ne (fun q => by rw [q, h] at h'; cases h')]; exact h'⟩)
    · exact .inr h'
  tupt := fun a u z h' => by rw [upd_ne (fun q => by rw [q, h] at h'; cases h'; cases z)]; exact h'
theorem Sim.own {W : Wd} {m : Mem} {xs : List V} (s : Sim W ρ m H) (h : H D = some (.lst xs)) (hD : ∀ i, i < m.length → ρ i ≠ D) : Sim W ρ m (upd H D o) :=
  ⟨s.inj, fun i ob q => by
    obtain ⟨u, a, b⟩ := s.obj i ob q
    have hi := (List.getElem?_eq_some_iff.mp q).1
    exact ⟨u, by rw [upd_ne (hD i hi)]; exact a, b.tr (Tr.own h)⟩⟩
theorem Ext.apart (x : Ext K ρ n H ρ' n' H') (h : H D = some o) (hD : ∀ i, i < n → ρ i ≠ D) : H' D = some o ∧ ∀ i, i < n' → ρ' i ≠ D := by
  refine ⟨x.frame D o h hD, fun i hi => ?_⟩
  by_cases q : i < n
  · rw [x.agree i q]; exact hD i q
  · intro e
    have := x.fresh i (Nat.le_of_not_lt q) hi
    rw [e, h] at this; cases this
theorem yld_ext {W : Wd} {m : Mem} {σ : L2.St} {l : Py.Loc} (s : Sim W ρ m H) (ss : SimS W.K ρ m.length H l σ) (h : H' = H ∨ ∃ p o, H p = none ∧ H' = upd H p o) : Ext W.K ρ m.length H ρ m.length H' ∧ Sim W ρ m H' := by
  rcases h with e | ⟨p, o, hp, e⟩
  · subst e; exact ⟨Ext.refl, s⟩
  · subst e; exact ⟨ext_laid hp, s.laid hp⟩
end

/-- the state of a comprehension at its turn i -/
structure CInv (W : Wd) (σ : L2.St) (l : Py.Loc) (chk : Option (Nat × List Val)) (el : Val → Mem → Res (Option Val)) (xs T : List Val) (mF : Mem) (ρ1 : Nat → Addr) (n1 : Nat) (H1 : Hp) (D : Addr) (i : Nat) (H : Hp) (ρ : Nat → Addr) (m : Mem) (acc ys : List Val) (accV : List V) : Prop where
  ext : Ext W.K ρ1 n1 H1 ρ m.length H
  sim : Sim W ρ m H
  ss : SimS W.K ρ m.length H l σ
  at_ : H D = some (.lst accV)
  rep : RepL W.K ρ m.length H acc accV
  far : ∀ i, i < m.length → ρ i ≠ D
  run : compLoop chk el (xs.drop i) m = .ok ys mF
  all : acc ++ ys = T
section
variable {X : Cx} {W : Wd} {wx : WX} {elt iter tg : Expr} {fi : Py.Loc → Mem → Res (List Val × Option (Nat × List Val))} {t : Tg} {pos : Pos} {scope : Scope} {own : List (PySem.Str × Nat)}
theorem CInv.ends {σ : L2.St} {l : Py.Loc} {chk el xs T mF ρ1 n1 H1 D H ρ m acc ys accV} {Q : VK} (c : CInv W σ l chk el xs T mF ρ1 n1 H1 D xs.length H ρ m acc ys accV) (h1 : H1 D = none)
    (p : Post W wx σ ρ1 n1 H1 (.ok (.ref mF.length) (mF ++ [.list T])) Q) : still chk m ∧ Q (.ref D) H := by
  have e := c.run
  rw [List.drop_length] at e
  unfold compLoop at e
  split at e
  · rename_i st
    cases e
    have ea := c.all
    rw [List.append_nil] at ea
    subst ea
    refine ⟨st, ?_⟩
    have el : (mF ++ [Ob.list acc]).length = mF.length + 1 := by simp
    let ρ2 : Nat → Addr := fun i => if i = mF.length then D else ρ i
    have a2 : ∀ i, i < mF.length → ρ2 i = ρ i := fun i hi => if_neg (Nat.ne_of_lt hi)
    have a3 : ρ2 mF.length = D := if_pos rfl
    have tr : Tr W.K ρ mF.length H ρ2 (mF.length + 1) H := ⟨Nat.le_succ _, a2, fun _ _ h => h, fun _ _ _ h => h⟩
    refine p ρ2 H (.ref D) ⟨by rw [el]; exact Nat.le_trans c.ext.le (Nat.le_succ _), fun i hi => (a2 i (Nat.lt_of_lt_of_le hi c.ext.le)).trans (c.ext.agree i hi), c.ext.tups, c.ext.tupt, c.ext.frame, c.ext.keep, fun i hi hj => ?_⟩ ⟨fun i j hi hj e => ?_, fun i ob q => ?_⟩ ?_
    · rw [el] at hj
      by_cases q : i = mF.length
      · rw [q, a3]; exact h1
      · rw [a2 i (by omega)]; exact c.ext.fresh i hi (by omega)
    · rw [el] at hi hj
      by_cases q1 : i = mF.length
      · by_cases q2 : j = mF.length
        · omega
        · exfalso
          rw [q1, a3, a2 j (by omega)] at e
          exact c.far j (by omega) e.symm
      · by_cases q2 : j = mF.length
        · exfalso
          rw [q2, a3, a2 i (by omega)] at e
          exact c.far i (by omega) e
        · rw [a2 i (by omega), a2 j (by omega)] at e
          exact c.sim.inj i j (by omega) (by omega) e
    · rw [el]
      by_cases q1 : i < mF.length
      · rw [List.getElem?_append_left q1] at q
        obtain ⟨u, a, b⟩ := c.sim.obj i ob q
        exact ⟨u, by rw [a2 i q1]; exact a, b.tr tr⟩
      · have q2 : i = mF.length := by
          have := (List.getElem?_eq_some_iff.mp q).1
          rw [el] at this; omega
        subst q2
        simp at q
        subst q
        exact ⟨_, by rw [a3]; exact c.at_, .list (c.rep.tr tr)⟩
    · rw [← a3, el]
      exact .ref (Nat.lt_succ_self _)
  · cases e
/-- the turn -/
theorem CInv.turn {σ : L2.St} {l : Py.Loc} {chk el xs T mF ρ1 n1 H1 D i H ρ m acc ys accV v} (c : CInv W σ l chk el xs T mF ρ1 n1 H1 D i H ρ m acc ys accV) (hv : xs[i]? = some v) :
    still chk m ∧ ∃ o m1 zs, el v m = .ok o m1 ∧ compLoop chk el (xs.drop (i + 1)) m1 = .ok zs mF ∧ ys = o.toList ++ zs := by
  obtain ⟨hi, ev⟩ := List.getElem?_eq_some_iff.mp hv
  have e := c.run
  rw [List.drop_eq_getElem_cons hi, ev] at e
  unfold compLoop at e
  split at e
  · rename_i st
    refine ⟨st, ?_⟩
    cases e1 : el v m with
    | ok o m1 =>
      rw [e1] at e
      simp only [Res.bind] at e
      cases e2 : compLoop chk el (xs.drop (i + 1)) m1 with
      | ok zs m2 =>
        rw [e2] at e
        simp only [Res.ok.injEq] at e
        exact ⟨o, m1, zs, rfl, by rw [← e.2]; exact e2, e.1.symm⟩
      | exc _ _ _ => rw [e2] at e; cases e
      | err => rw [e2] at e; cases e
    | exc _ _ _ => rw [e1] at e; cases e
    | err => rw [e1] at e; cases e
  · cases e
theorem wipe_eq : ∀ {vs : List Nat} {σ σ2 : L2.St}, σ2.length = σ.length → (∀ i, i ∉ vs → σ2[i]? = (wipe σ vs)[i]?) → wipe σ2 vs = wipe σ vs := fun {vs σ σ2} hl h => by
  refine List.ext_getElem? fun i => ?_
  by_cases hi : i ∈ vs
  · have z : ∀ (τ : L2.St) (ws : List Nat), i ∈ ws → (wipe τ ws)[i]? = if i < τ.length then some none else none := fun τ ws => by
      induction ws with
      | nil => intro h; cases h
      | cons w ws ih =>
        intro hm
        unfold wipe
        rw [List.getElem?_set]
        by_cases e : w = i
        · subst e
          rw [if_pos rfl, wipe_length]
        · rw [if_neg e]
          exact ih ((List.mem_cons.mp hm).resolve_left fun q => e q.symm)
    rw [z σ2 vs hi, z σ vs hi, hl]
  · have z : ∀ (τ : L2.St) (ws : List Nat), i ∉ ws → (wipe τ ws)[i]? = τ[i]? := fun τ ws => by
      induction ws with
      | nil => intro _; rfl
      | cons w ws ih =>
        intro hm
        rw [List.mem_cons, not_or] at hm
        unfold wipe
        rw [List.getElem?_set_ne (fun e => hm.1 e.symm)]
        exact ih hm.2
    rw [z σ2 vs hi, h i hi]
theorem SimS.wipe {K : PySem.W.Frag} {ρ : Nat → Addr} {n : Nat} {H : Hp} {l : Py.Loc} {σ : L2.St} (s : SimS K ρ n H l σ) : ∀ vs : List Nat, SimS K ρ n H (wipeL l vs) (L2.wipe σ vs)
  | [] => s
  | v :: vs => by
    have ih := s.wipe vs
    unfold wipeL L2.wipe
    refine ⟨by simp [ih.len], fun i w h => ?_⟩
    by_cases e : v = i
    · subst e
      rw [List.getElem?_set] at h
      split at h
      · split at h <;> cases h
      · rename_i h0; exact absurd rfl h0
    · rw [List.getElem?_set_ne e] at h
      obtain ⟨u, a, b⟩ := ih.get i w h
      exact ⟨u, by rw [List.getElem?_set_ne e]; exact a, b⟩
/-- a comprehension's tests: none, or one -/
def tTests (W : Wd) (fc : Option (Py.Loc → Mem → Res Val)) : TT := match fc with
  | none => tYes
  | some f => tSemT W (fun _ _ _ _ => False) f
def elOf (t : Tg) (l : Py.Loc) (fc : Option (Py.Loc → Mem → Res Val)) (fe : Py.Loc → Mem → Res Val) : Val → Mem → Res (Option Val) := match fc with
  | none => compEl t l fe
  | some c => compElIf t l c fe
theorem se_compG {ifs : List Expr} {fc : Option (Py.Loc → Mem → Res Val)} {fe : Py.Loc → Mem → Res Val} (hc : X.calm = true) (hN : X.N.Nodup) (hi : SI X W wx tg iter fi) (ok : BlkOk X.N X.env.scope scope own) (hown : own.map (·.2) = t.slots)
    (hg : ∀ (s : Shared) (H : Hp) (C : Addr) (cl : List (PySem.Str × Addr)) (fp : List Addr), PG (X.blk s H scope (compEnvC scope cl C X.env) fp) tg (gSem W t))
    (ht : ∀ (s : Shared) (H : Hp) (C : Addr) (cl : List (PySem.Str × Addr)) (fp : List Addr), PTs (X.blk s H scope (compEnvC scope cl C X.env) fp) ifs (tTests W fc))
    (he : ∀ (s : Shared) (H : Hp) (C : Addr) (cl : List (PySem.Str × Addr)) (fp : List Addr), PE (X.blk s H scope (compEnvC scope cl C X.env) fp) elt (tSem W (fun _ _ _ _ => False) fe))
    (hs : ∀ x, foldedSetIterable iter X.env x = pure x) :
    (∃ t' : TE, PE X (.ListComp elt [⟨tg, iter, ifs, 0⟩] scope pos) t' ∧
      (∀ {i : Nat} {y : PySem.Str} {py spos : Pos}, X.N[i]? = some y → X.env.scope.names.lookup y = some .local → swapsWith (.ListComp elt [⟨tg, iter, ifs, 0⟩] scope pos) (some (.Name y py)) spos.line X.env = pure true →
        PS X (.Assign [.Name y py] (.ListComp elt [⟨tg, iter, ifs, 0⟩] scope pos) spos) (tAsg t' (gName i))) ∧
      ∀ (σ : L2.St) (H : Hp) (ρ : Nat → Addr) (l : Py.Loc) (m : Mem) (Q : VK), SimS W.K ρ m.length H l σ → Sim W ρ m H → Post W wx σ ρ m.length H ((fi l m).bind fun w m1 => compEnd (compLoop w.2 (elOf t l fc fe) w.1 m1)) Q → t' σ H Q) := by
  obtain ⟨wi, pi, qi⟩ := hi.ex
  refine ⟨_, pe_lc hc hN pi ok hg ht he hs, fun {i y py spos} h1 h2 h3 => ps_setLc hc hN h1 h2 h3 pi ok hg ht he hs, fun σ H ρ l m Q ss s p => ?_⟩
  rw [hown]
  refine qi σ H ρ l m _ ss s ?_
  cases e1 : fi l m with
  | err => rw [e1] at p; exact p.elim
  | exc c fs m1 => rw [e1] at p; exact p
  | ok w m1 =>
    rw [e1] at p
    obtain ⟨xs, chk⟩ := w
    have p' : Post W wx σ ρ m.length H (compEnd (compLoop chk (elOf t l fc fe) xs m1)) Q := p
    intro ρ1 H1 J x1 s1 wk D hD
    have p1 := p'.ext x1
    cases e2 : compLoop chk (elOf t l fc fe) xs m1 with
    | err => rw [e2] at p1; exact p1.elim
    | exc _ _ _ => rw [e2] at p1; exact p1.elim
    | ok T mF =>
      rw [e2] at p1
      unfold compEnd at p1
      split at p1
      · rename_i ys' m' hT ee
        cases ee
        split at p1
        · rename_i hTl
          have ss1 := ss.ext x1
          refine ⟨fun i n H => n = xs.length - i ∧ i ≤ xs.length ∧ ∃ ρ m acc ys accV, CInv W σ l chk (elOf t l fc fe) xs T mF ρ1 m1.length H1 D i H ρ m acc ys accV, ⟨xs.length, by simp, Nat.zero_le _, ρ1, m1, [], T, [], ?_⟩, ?_⟩
          · refine ⟨Ext.refl.own hD, s1.laid hD, ss1.tr (ext_laid hD).tr, upd_same, .nil, fun i hi e => ?_, e2, rfl⟩
            obtain ⟨u, a, _⟩ := s1.obj i m1[i] (by simp [hi])
            rw [e, hD] at a; cases a
          · rintro i n H2 ⟨en, hi, ρ2, m2, acc, ys, accV, c⟩
            by_cases hlt : i < xs.length
            · obtain ⟨v, hv⟩ : ∃ v, xs[i]? = some v := ⟨xs[i], by simp [hlt]⟩
              obtain ⟨st, o, m3, zs, eo, ez, ey⟩ := c.turn hv
              obtain ⟨go, yl⟩ := wk.go i ρ2 m2 H2 v c.ext.trw c.sim st hv
              refine .inr ⟨go, fun H' => ∃ ρ m acc ys accV, CInv W σ l chk (elOf t l fc fe) xs T mF ρ1 m1.length H1 D (i + 1) H' ρ m acc ys accV, fun H' h => ⟨xs.length - (i + 1), by omega, rfl, hlt, h⟩, fun x H' hy => ?_⟩
              obtain ⟨hH', rv⟩ := yl x H' hy
              obtain ⟨xe, s2⟩ := yld_ext c.sim c.ss hH'
              have ss2 := c.ss.ext xe
              obtain ⟨d2, far2⟩ := xe.apart c.at_ c.far
              have ext2 : Ext W.K ρ1 m1.length H1 ρ2 m2.length H' := c.ext.trans xe
              have rep2 := c.rep.ext xe
              -- what is left when a value has come, or none
              have keep : ∀ {H4 : Hp} {ρ4 : Nat → Addr} {y : Val} {u : V}, Ext W.K ρ2 m2.length H' ρ4 m3.length H4 → Sim W ρ4 m3 H4 → Rep W.K ρ4 m3.length H4 y u → o = some y →
                  ∃ acc, H4 D = some (.lst acc) ∧ acc.length < sizeLine ∧ ∃ ρ m acc_1 ys accV, CInv W σ l chk (elOf t l fc fe) xs T mF ρ1 m1.length H1 D (i + 1) (upd H4 D (.lst (acc ++ [u]))) ρ m acc_1 ys accV := fun {H4 ρ4 y u} x4 s4 r4 eoy => by
                obtain ⟨d4, far4⟩ := x4.apart d2 far2
                have hl : accV.length < sizeLine := by
                  have hall := c.all
                  rw [ey, eoy] at hall
                  have := congrArg List.length hall
                  simp only [List.length_append, Option.toList, List.length_cons, List.length_nil] at this
                  rw [← c.rep.length, ← sz_line]
                  omega
                refine ⟨accV, d4, hl, ρ4, m3, acc ++ [y], zs, accV ++ [u], ?_⟩
                have tr4 : Tr W.K ρ4 m3.length H4 ρ4 m3.length (upd H4 D (.lst (accV ++ [u]))) := Tr.own d4
                exact ⟨(ext2.trans x4).own hD, s4.own d4 far4, (ss2.ext x4).tr tr4, upd_same, (((rep2.ext x4).append (.cons r4 .nil))).tr tr4, far4, ez, by rw [List.append_assoc, ← c.all, ey, eoy]; rfl⟩
              have drop : ∀ {H4 : Hp} {ρ4 : Nat → Addr}, Ext W.K ρ2 m2.length H' ρ4 m3.length H4 → Sim W ρ4 m3 H4 → o = none → ∃ ρ m acc_1 ys accV, CInv W σ l chk (elOf t l fc fe) xs T mF ρ1 m1.length H1 D (i + 1) H4 ρ m acc_1 ys accV := fun {H4 ρ4} x4 s4 eoy => by
                obtain ⟨d4, far4⟩ := x4.apart d2 far2
                exact ⟨ρ4, m3, acc, zs, accV, ext2.trans x4, s4, ss2.ext x4, d4, rep2.ext x4, far4, ez, by rw [← c.all, ey, eoy]; rfl⟩
              -- the target
              have asg : ∃ l', assignT m2 t v (wipeL l t.slots) = some l' := by
                cases fc with
                | none =>
                  unfold elOf compEl at eo
                  simp only at eo
                  split at eo
                  · exact ⟨_, by assumption⟩
                  · cases eo
                | some f =>
                  unfold elOf compElIf at eo
                  simp only at eo
                  split at eo
                  · exact ⟨_, by assumption⟩
                  · cases eo
              obtain ⟨l', el'⟩ := asg
              refine ⟨ρ2, wipeL l t.slots, m2, v, l', ss2.wipe _, s2, rv, el', fun σ' ss' k' n' => ?_⟩
              refine ⟨wipe_eq ?_ k', ?_⟩
              · rw [n', wipe_length]
              · cases fc with
                | none =>
                  unfold elOf compEl at eo
                  simp only [el'] at eo
                  simp only [tTests, tYes, if_true]
                  refine ⟨ρ2, l', m2, ss', s2, ?_⟩
                  cases e5 : fe l' m2 with
                  | ok y m5 =>
                    rw [e5] at eo
                    simp only [Res.bind, Res.ok.injEq] at eo
                    obtain ⟨eo1, eo2⟩ := eo
                    subst eo2
                    intro ρ4 H4 u x4 s4 r4
                    exact keep x4 s4 r4 eo1.symm
                  | exc _ _ _ => rw [e5] at eo; cases eo
                  | err => rw [e5] at eo; cases eo
                | some f =>
                  unfold elOf compElIf at eo
                  simp only [el'] at eo
                  simp only [tTests]
                  refine ⟨ρ2, l', m2, ss', s2, ?_⟩
                  cases e5 : f l' m2 with
                  | ok b m5 =>
                    rw [e5] at eo
                    simp only [Res.bind] at eo
                    cases e6 : truth m5 b with
                    | none => rw [e6] at eo; cases eo
                    | some k =>
                      rw [e6] at eo
                      refine ⟨k, e6, fun ρ4 H4 x4 s4 => ?_⟩
                      cases k with
                      | false =>
                        simp only [Res.ok.injEq] at eo
                        obtain ⟨eo1, eo2⟩ := eo
                        subst eo2
                        rw [if_neg (by decide)]
                        exact drop x4 s4 eo1.symm
                      | true =>
                        rw [if_pos rfl]
                        refine ⟨ρ4, l', m5, ss'.ext x4, s4, ?_⟩
                        cases e7 : fe l' m5 with
                        | ok y m6 =>
                          rw [e7] at eo
                          simp only [Res.ok.injEq] at eo
                          obtain ⟨eo1, eo2⟩ := eo
                          subst eo2
                          intro ρ5 H5 u x5 s5 r5
                          exact keep (x4.trans x5) s5 r5 eo1.symm
                        | exc _ _ _ => rw [e7] at eo; cases eo
                        | err => rw [e7] at eo; cases eo
                  | exc _ _ _ => rw [e5] at eo; cases eo
                  | err => rw [e5] at eo; cases eo
            · have ei : i = xs.length := by omega
              subst ei
              obtain ⟨st, q⟩ := c.ends hD p1
              exact .inl ⟨wk.stop xs.length ρ2 m2 H2 c.ext.trw c.sim st (Nat.le_refl _), q⟩
        · exact p1.elim
      · rename_i hne
        exact absurd rfl (hne _ _)
end
end Py

namespace Py
open PySem PySem.Spec PyProof.Rows L2

def PostF (W : Wd) (wx : WX) (ρ : Nat → Addr) (n : Nat) (H : Hp) (r : Flow) (D : Ends) : Prop := match r with
  | .nx l m => ∀ ρ' H' σ', Ext W.K ρ n H ρ' m.length H' → Sim W ρ' m H' → SimS W.K ρ' m.length H' l σ' → D.nx σ' H'
  | .ret v m => ∀ ρ' H' u, Ext W.K ρ n H ρ' m.length H' → Sim W ρ' m H' → Rep W.K ρ' m.length H' v u → D.rt u H'
  | .brk l m => ∀ ρ' H' σ', Ext W.K ρ n H ρ' m.length H' → Sim W ρ' m H' → SimS W.K ρ' m.length H' l σ' → D.bk σ' H'
  | .cnt l m => ∀ ρ' H' σ', Ext W.K ρ n H ρ' m.length H' → Sim W ρ' m H' → SimS W.K ρ' m.length H' l σ' → D.ct σ' H'
  | .exc l c fs m => ∀ ρ' H' σ' cls d, Ext W.K ρ n H ρ' m.length H' → Sim W ρ' m H' → SimS W.K ρ' m.length H' l σ' → RepX W ρ' m.length H' c fs cls d → wx cls d σ' H'
  | .err => False
section
variable {W : Wd} {wx : WX} {ρ ρ1 : Nat → Addr} {n n1 : Nat} {H H1 : Hp}
theorem PostF.ext {r : Flow} {D : Ends} (p : PostF W wx ρ n H r D) (x : Ext W.K ρ n H ρ1 n1 H1) : PostF W wx ρ1 n1 H1 r D := by
  cases r with
  | nx l m => exact fun ρ' H' u a b c => p ρ' H' u (x.trans a) b c
  | ret l m => exact fun ρ' H' u a b c => p ρ' H' u (x.trans a) b c
  | brk l m => exact fun ρ' H' u a b c => p ρ' H' u (x.trans a) b c
  | cnt l m => exact fun ρ' H' u a b c => p ρ' H' u (x.trans a) b c
  | exc l c fs m => exact fun ρ' H' u cls d a b c e => p ρ' H' u cls d (x.trans a) b c e
  | err => exact p
theorem PostF.bind {σ : L2.St} {l : Py.Loc} {r : Res Val} {f : Val → Mem → Flow} {D : Ends} (ss : SimS W.K ρ n H l σ) (p : PostF W wx ρ n H (bindF l r f) D) :
    Post W wx σ ρ n H r fun u H1 => ∃ v m1 ρ1, Aft W σ ρ n H l v m1 ρ1 u H1 ∧ PostF W wx ρ1 m1.length H1 (f v m1) D := by
  cases r with
  | ok v m => exact fun ρ' H' u a b c => ⟨v, m, ρ', ⟨a, ss.ext a, b, c⟩, PostF.ext p a⟩
  | exc c fs m => exact fun ρ' H' cls d a b e => p ρ' H' σ cls d a b (ss.ext a) e
  | err => exact p
end
structure SS (X : Cx) (W : Wd) (wx : WX) (st : Stmt) (f : Py.Loc → Mem → Flow) : Prop where
  ex : ∃ t : TS, PS X st t ∧ ∀ (σ : L2.St) (H : Hp) (ρ : Nat → Addr) (l : Py.Loc) (m : Mem) (D : Ends), SimS W.K ρ m.length H l σ → Sim W ρ m H → PostF W wx ρ m.length H (f l m) D → t D σ H
structure SSs (X : Cx) (W : Wd) (wx : WX) (st : List Stmt) (f : Py.Loc → Mem → Flow) : Prop where
  ex : ∃ t : TS, PSs X st t ∧ ∀ (σ : L2.St) (H : Hp) (ρ : Nat → Addr) (l : Py.Loc) (m : Mem) (D : Ends), SimS W.K ρ m.length H l σ → Sim W ρ m H → PostF W wx ρ m.length H (f l m) D → t D σ H

section
variable {X : Cx} {W : Wd} {wx : WX} {st : Stmt} {sts : List Stmt} {e o iter tg : Expr} {f fe fo : Py.Loc → Mem → Res Val} {g gs : Py.Loc → Mem → Flow} {pos pos' : Pos}
theorem ss_pass : SS X W wx (.Pass pos) (fun l m => .nx l m) := ⟨_, ps_pass, fun σ H ρ l m D ss s p => p ρ H σ Ext.refl s ss⟩
theorem ss_brk : SS X W wx (.Break pos) (fun l m => .brk l m) := ⟨_, ps_break, fun σ H ρ l m D ss s p => p ρ H σ Ext.refl s ss⟩
theorem ss_cnt : SS X W wx (.Continue pos) (fun l m => .cnt l m) := ⟨_, ps_continue, fun σ H ρ l m D ss s p => p ρ H σ Ext.refl s ss⟩
theorem ss_dead : SS X W wx st (fun _ _ => .err) := ⟨_, ps_never, fun σ H ρ l m D ss s p => p.elim⟩
theorem sss_nil : SSs X W wx [] (fun l m => .nx l m) := ⟨_, pss_nil, fun σ H ρ l m D ss s p => p ρ H σ Ext.refl s ss⟩
theorem sss_cons (h : SS X W wx st g) (hr : SSs X W wx sts gs) : SSs X W wx (st :: sts) (fun l m => (g l m).seq gs) := by
  obtain ⟨t, p, q⟩ := h.ex
  obtain ⟨u, pr, qr⟩ := hr.ex
  refine ⟨_, pss_cons p pr, fun σ H ρ l m D ss s po => ?_⟩
  refine q σ H ρ l m _ ss s ?_
  cases e : g l m with
  | nx l' m' =>
    rw [e] at po
    exact fun ρ' H' σ' x s' ss' => qr σ' H' ρ' l' m' D ss' s' (PostF.ext po x)
  | _ => rw [e] at po; exact po
theorem ss_expr (h : SE X W wx e f) (hs : swapsWith e none pos.line X.env = pure false) : SS X W wx (.Expr e pos) (fun l m => bindF l (f l m) fun _ m1 => .nx l m1) := by
  obtain ⟨t, p, q⟩ := h.ex
  refine ⟨_, ps_expr p hs, fun σ H ρ l m D ss s po => ?_⟩
  exact q σ H ρ l m _ ss s ((PostF.bind ss po).mono fun u H1 ⟨x, m1, ρ1, A, p1⟩ => p1 ρ1 H1 σ Ext.refl A.sim A.ss)
theorem ss_set {i : Nat} {x : PySem.Str} (hN : X.N.Nodup) (hi : X.N[i]? = some x) (hx : L2.Loc X.env.scope x) (hf : X.fn x = true ∨ X.env.scope.names.lookup x = some .local) (h : SE X W wx e f) (hs : swapsWith e (some (.Name x pos')) pos.line X.env = pure false) :
    SS X W wx (.Assign [.Name x pos'] e pos) (fun l m => bindF l (f l m) fun v m1 => .nx (l.set i (some v)) m1) := by
  obtain ⟨t, p, q⟩ := h.ex
  refine ⟨_, ps_set hN hi hx p hs hf, fun σ H ρ l m D ss s po => ?_⟩
  exact q σ H ρ l m _ ss s ((PostF.bind ss po).mono fun u H1 ⟨x, m1, ρ1, A, p1⟩ => p1 ρ1 H1 _ Ext.refl A.sim (A.ss.set A.rep i))
theorem ss_asg {t : Tg} (hg : PG X tg (gSem W t)) (h : SE X W wx e f) (hs : swapsWithSole [tg] e pos.line X.env = pure false) (hw : swappedStores [tg] e X.env = pure none) (h1 : (assignEach [tg] X.env).map (·.2) = [assign tg X.env]) :
    SS X W wx (.Assign [tg] e pos) (fun l m => bindF l (f l m) fun v m1 => match assignT m1 t v l with
      | some l' => .nx l' m1
      | none => .err) := by
  obtain ⟨tt, p, q⟩ := h.ex
  refine ⟨_, ps_asg p hg hs hw h1, fun σ H ρ l m D ss s po => ?_⟩
  refine q σ H ρ l m _ ss s ((PostF.bind ss po).mono fun u H1 ⟨x, m1, ρ1, A, p1⟩ => ?_)
  split at p1
  · rename_i l' el
    exact ⟨ρ1, l, m1, x, l', A.ss, A.sim, A.rep, el, fun σ' ss' _ _ => p1 ρ1 H1 σ' Ext.refl A.sim ss'⟩
  · exact p1.elim
/-! x op= e -/
def rAug (W : Wd) (o : BOp) : TIp := fun u w H Q => ∃ ρ m x y, Sim W ρ m H ∧ Rep W.K ρ m.length H x u ∧ Rep W.K ρ m.length H y w ∧ PV W ρ m.length H (augop o x y m) Q
theorem augop_nx {o : BOp} {x y : Val} {m m' : Mem} {c : PySem.Str} {fs} : augop o x y m ≠ .exc c fs m' := by
  unfold augop; split <;> (try split) <;> simp
theorem ip_any (o : BOp) : PIp X (opOf o) (rAug W o) := by
  intro pins s σ H x y v u Q I rx ry h
  obtain ⟨ρ, m, x', y', sm, rx', ry', p⟩ := h
  unfold augop at p
  split at p
  · rw [int_of rx'] at rx
    rw [int_of ry'] at ry
    exact ip_add pins s σ H _ _ v u Q I rx ry ⟨_, _, rfl, rfl, sm.one p (.int _)⟩
  · rw [int_of rx'] at rx
    rw [int_of ry'] at ry
    exact ip_sub pins s σ H _ _ v u Q I rx ry ⟨_, _, rfl, rfl, sm.one p (.int _)⟩
  · split at p
    · rename_i hl
      cases rx' with
      | str a ha =>
        cases ry' with
        | str b hb =>
          refine iop_add_str pins s σ H _ _ v u Q I rx ry ⟨_, _, rfl, rfl, by rw [sv_len, sv_len, ← sz_line]; exact hl, ?_⟩
          rw [sv_app]
          exact sm.one p (.str _ (okS_app ha hb))
    · exact p.elim
  · exact p.elim
theorem ss_aug {i : Nat} {x : PySem.Str} (b : BOp) (hN : X.N.Nodup) (hi : X.N[i]? = some x) (hx : L2.Loc X.env.scope x) (hf : X.fn x = true ∨ X.env.scope.names.lookup x = some .local) (h : SE X W wx e f) :
    SS X W wx (.AugAssign (.Name x pos') (opOf b) e pos) (fun l m => match l[i]? with
      | some (some x) => bindF l (f l m) fun y m1 => bindF l (augop b x y m1) fun v m2 => .nx (l.set i (some v)) m2
      | _ => .err) := by
  obtain ⟨t, p, q⟩ := h.ex
  refine ⟨_, ps_aug hN hi hx p (ip_any (W := W) b) hf, fun σ H ρ l m D ss s po => ?_⟩
  split at po
  · rename_i v ev
    obtain ⟨u, e1, r⟩ := ss.get i v ev
    refine ⟨u, e1, ?_⟩
    refine q σ H ρ l m _ ss s ((PostF.bind ss po).mono fun w H1 ⟨y, m1, ρ1, A, p1⟩ => ?_)
    have p2 := (PostF.bind A.ss p1).nx fun _ _ _ => augop_nx
    refine ⟨ρ1, m1, v, y, A.sim, r.ext A.ext, A.rep, ?_⟩
    cases e2 : augop b v y m1 with
    | ok z m2 =>
      rw [e2] at p2
      intro ρ' H' z' x' s' r'
      obtain ⟨v2, m3, ρ3, B, p3⟩ := p2 ρ' H' z' x' s' r'
      exact p3 ρ3 H' _ Ext.refl B.sim (B.ss.set B.rep i)
    | exc _ _ _ => rw [e2] at p2; exact p2.elim
    | err => rw [e2] at p2; exact p2.elim
  · exact po.elim
theorem ss_ret (h : SE X W wx e f) : SS X W wx (.Return (some e) pos) (fun l m => bindF l (f l m) fun v m1 => .ret v m1) := by
  obtain ⟨t, p, q⟩ := h.ex
  refine ⟨_, ps_ret p, fun σ H ρ l m D ss s po => ?_⟩
  exact q σ H ρ l m _ ss s ((PostF.bind ss po).mono fun u H1 ⟨x, m1, ρ1, A, p1⟩ => p1 ρ1 H1 u Ext.refl A.sim A.rep)
theorem ss_retN : SS X W wx (.Return none pos) (fun l m => .ret .none m) := ⟨_, ps_retN, fun σ H ρ l m D ss s p => p ρ H .non Ext.refl s .none⟩
def setAttrR (P : Prog) (fn : PySem.Str) (v x : Val) (l : Py.Loc) (m2 : Mem) : Flow := match x with
  | .ref k => match m2[k]? with
    | some (.inst c fs) => if fs.length < 1000 ∧ (P.flds c).contains fn = true then .nx l (m2.set k (.inst c (putAttr fn v fs))) else .err
    | _ => .err
  | _ => .err
theorem ss_setAttr {P : Prog} (hW : W.K = X.K) {fn : PySem.Str} (hP : ∀ c, (P.flds c).contains fn = true → NoAttr W.K (W.cad c) fn) (ho : SE X W wx o fo) (h : SE X W wx e f) (hs : swapsWith e (some (.Attribute o fn pos')) pos.line X.env = pure false) :
    SS X W wx (.Assign [.Attribute o fn pos'] e pos) (fun l m => bindF l (f l m) fun v m1 => bindF l (fo l m1) fun x m2 => setAttrR P fn v x l m2) := by
  obtain ⟨t, p, q⟩ := h.ex
  obtain ⟨to, po, qo⟩ := ho.ex
  refine ⟨_, ps_fld po p hs, fun σ H ρ l m D ss s pp => ?_⟩
  refine q σ H ρ l m _ ss s ((PostF.bind ss pp).mono fun u H1 ⟨v, m1, ρ1, A, p1⟩ => ?_)
  refine qo σ H1 ρ1 l m1 _ A.ss A.sim ((PostF.bind A.ss p1).mono fun w H2 ⟨x, m2, ρ2, B, p2⟩ => ?_)
  unfold setAttrR at p2
  split at p2
  · rename_i k
    split at p2
    · rename_i c fs ek
      split at p2
      · rename_i hh
        obtain ⟨hl, hc⟩ := hh
        obtain ⟨dx, us, q1, q2, q3, q4⟩ := B.sim.inst ek
        have na := hP c hc
        have hk : k < m2.length := (List.getElem?_eq_some_iff.mp ek).1
        have r := B.rep
        cases r
        refine ⟨_, _, dx, us, rfl, q1, by rw [← hW]; exact q3, by rw [← hW]; exact na, by rw [← q2.length]; exact hl, ?_⟩
        have rv := A.rep.ext B.ext
        have hf : ∀ kvs, m2[k]? ≠ some (.fdict kvs) := fun kvs z => by rw [ek] at z; cases z
        have x3 := ext_put (o' := .ins (W.cad c) dx (putF fn u us)) B.sim hk q1 hf
        have hln : (m2.set k (Ob.inst c (putAttr fn v fs))).length = m2.length := by simp
        refine p2 ρ2 _ σ (by rw [hln]; exact x3) (B.sim.put hk hf (.inst (q2.put rv) q3 fun g z hz => ?_)) (by rw [hln]; exact B.ss.ext x3)
        rw [lookup_putF] at hz
        split at hz
        · rename_i e; rw [e]; exact na
        · exact q4 g z hz
      · exact p2.elim
    · exact p2.elim
  · exact p2.elim
def setIdxR (v x y : Val) (l : Py.Loc) (m3 : Mem) : Flow := match x, y with
  | .ref k, j => match m3[k]? with
    | some (.list xs) => match j with
      | .int i => match ixOf xs.length i with
        | some n => .nx l (m3.set k (.list (xs.set n v)))
        | none => .err
      | _ => .err
    | _ => .err
  | _, _ => .err
theorem ss_setIdx {i : Expr} {fi : Py.Loc → Mem → Res Val} (ho : SE X W wx o fo) (hi : SE X W wx i fi) (h : SE X W wx e f)
    (ha : ∀ v, assign (.Subscript o i pos') X.env v = (do
      let ov ← holding [v] (eval o X.env)
      let iv ← holding [v, ov] (eval i X.env)
      standAt pos'
      holding [v, ov, iv] (setItem ov iv v)
      release [v, ov, iv] []))
    (hs : swapsWithSole [.Subscript o i pos'] e pos.line X.env = pure false) (hw : swappedStores [.Subscript o i pos'] e X.env = pure none) (h1 : (assignEach [.Subscript o i pos'] X.env).map (·.2) = [assign (.Subscript o i pos') X.env]) :
    SS X W wx (.Assign [.Subscript o i pos'] e pos) (fun l m => bindF l (f l m) fun v m1 => bindF l (fo l m1) fun x m2 => bindF l (fi l m2) fun y m3 => setIdxR v x y l m3) := by
  obtain ⟨t, p, q⟩ := h.ex
  obtain ⟨to, po, qo⟩ := ho.ex
  obtain ⟨ti, pi, qi⟩ := hi.ex
  refine ⟨_, ps_asg p (pg_sub po pi set_list ha) hs hw h1, fun σ H ρ l m D ss s pp => ?_⟩
  refine q σ H ρ l m _ ss s ((PostF.bind ss pp).mono fun u H1 ⟨v, m1, ρ1, A, p1⟩ => ?_)
  refine qo σ H1 ρ1 l m1 _ A.ss A.sim ((PostF.bind A.ss p1).mono fun w H2 ⟨x, m2, ρ2, B, p2⟩ => ?_)
  refine qi σ H2 ρ2 l m2 _ B.ss B.sim ((PostF.bind B.ss p2).mono fun z H3 ⟨y, m3, ρ3, C, p3⟩ => ?_)
  have rx := B.rep.ext C.ext
  have ry := C.rep
  have rv := (A.rep.ext B.ext).ext C.ext
  unfold setIdxR at p3
  split at p3
  · rename_i k j
    split at p3
    · rename_i xs ek
      split at p3
      · rename_i i0
        split at p3
        · rename_i n en
          obtain ⟨us, q1, r⟩ := C.sim.obj k _ ek
          cases r with
          | list r =>
            have hk : k < m3.length := (List.getElem?_eq_some_iff.mp ek).1
            cases rx
            cases ry
            refine ⟨_, _, i0, n, rfl, rfl, q1, by rw [← r.length, ← ixOf_eq]; exact en, ?_⟩
            have hln : (m3.set k (Ob.list (xs.set n v))).length = m3.length := by simp
            have hf : ∀ kvs, m3[k]? ≠ some (.fdict kvs) := fun kvs z => by rw [ek] at z; cases z
            exact p3 ρ3 _ σ (by rw [hln]; exact ext_put C.sim hk q1 hf) (C.sim.put hk hf (.list (r.set n rv))) (by rw [hln]; exact C.ss.ext (ext_put C.sim hk q1 hf))
        · exact p3.elim
      · exact p3.elim
    · exact p3.elim
  · exact p3.elim
theorem ss_if {c : Expr} {fc : Py.Loc → Mem → Res Val} {sa sb : List Stmt} {ga gb : Py.Loc → Mem → Flow} (hc : ST X W wx c fc) (ha : SSs X W wx sa ga) (hb : SSs X W wx sb gb) :
    SS X W wx (.If c sa sb pos) (fun l m => bindF l (fc l m) fun v m1 => match truth m1 v with
      | some true => ga l m1
      | some false => gb l m1
      | none => .err) := by
  obtain ⟨t, p, q⟩ := hc.ex
  obtain ⟨ta, pa, qa⟩ := ha.ex
  obtain ⟨tb, pb, qb⟩ := hb.ex
  refine ⟨_, ps_if p pa pb, fun σ H ρ l m D ss s po => ?_⟩
  refine q σ H ρ l m _ ss s ?_
  cases e : fc l m with
  | ok v m1 =>
    rw [e] at po
    unfold bindF at po
    simp only at po
    split at po
    · rename_i et
      exact ⟨true, et, fun ρ' H' x s' => iteT (qa σ H' ρ' l m1 D (ss.ext x) s' (PostF.ext po x))⟩
    · rename_i et
      exact ⟨false, et, fun ρ' H' x s' => iteF (qb σ H' ρ' l m1 D (ss.ext x) s' (PostF.ext po x))⟩
    · exact po.elim
  | exc c fs m1 => rw [e] at po; exact fun ρ' H' cls d a b ee => po ρ' H' σ cls d a b (ss.ext a) ee
  | err => rw [e] at po; exact po.elim
theorem ss_while {c : Expr} {fc : Py.Loc → Mem → Res Val} {sb : List Stmt} {gb : Py.Loc → Mem → Flow} (N : Nat) (hp : PassesOwn (model X.prog X.w) X.A X.env X.xe) (hc : ST X W wx c fc) (hb : SSs X W wx sb gb) :
    SS X W wx (.While c sb [] pos) (fun l m => whileLoop fc gb N l m) := by
  obtain ⟨t, p, q⟩ := hc.ex
  obtain ⟨tb, pb, qb⟩ := hb.ex
  refine ⟨_, ps_while hp p pb, fun σ H ρ l m D ss s po => ?_⟩
  refine ⟨fun n σ H => ∃ ρ l m, SimS W.K ρ m.length H l σ ∧ Sim W ρ m H ∧ PostF W wx ρ m.length H (whileLoop fc gb n l m) D, ⟨N, ρ, l, m, ss, s, po⟩, ?_⟩
  rintro n σ H ⟨ρ, l, m, ss, s, po⟩
  cases n with
  | zero => exact (show False from po).elim
  | succ n =>
    unfold whileLoop at po
    refine q σ H ρ l m _ ss s ?_
    cases e : fc l m with
    | ok v m1 =>
      rw [e] at po
      unfold bindF at po
      simp only at po
      split at po
      · rename_i et
        refine ⟨true, et, fun ρ' H' x s' => ?_⟩
        refine iteT ⟨fun σ' H' => ∃ ρ l m, SimS W.K ρ m.length H' l σ' ∧ Sim W ρ m H' ∧ PostF W wx ρ m.length H' (whileLoop fc gb n l m) D, fun σ' H' h => ⟨n, Nat.lt_succ_self _, h⟩, ?_⟩
        refine qb σ H' ρ' l m1 _ (ss.ext x) s' ?_
        have po' := PostF.ext po x
        cases eb : gb l m1 with
        | nx l2 m2 => rw [eb] at po'; exact fun ρ2 H2 σ2 x2 s2 ss2 => ⟨ρ2, l2, m2, ss2, s2, PostF.ext po' x2⟩
        | cnt l2 m2 => rw [eb] at po'; exact fun ρ2 H2 σ2 x2 s2 ss2 => ⟨ρ2, l2, m2, ss2, s2, PostF.ext po' x2⟩
        | brk l2 m2 => rw [eb] at po'; exact po'
        | ret v2 m2 => rw [eb] at po'; exact po'
        | exc l2 c2 f2 m2 => rw [eb] at po'; exact po'
        | err => rw [eb] at po'; exact po'
      · rename_i et
        refine ⟨false, et, fun ρ' H' x s' => ?_⟩
        exact iteF (po ρ' H' σ x s' (ss.ext x))
      · exact po.elim
    | exc c fs m1 => rw [e] at po; exact fun ρ' H' cls d a b ee => po ρ' H' σ cls d a b (ss.ext a) ee
    | err => rw [e] at po; exact po.elim
theorem ss_for {t : Tg} {fi : Py.Loc → Mem → Res (List Val × Option (Nat × List Val))} {sb : List Stmt} {gb : Py.Loc → Mem → Flow} (hp : PassesOwn (model X.prog X.w) X.A X.env X.xe) (hc : X.calm = true) (hi : SI X W wx tg iter fi) (hg : PG X tg (gSem W t)) (hb : SSs X W wx sb gb)
    (hs : ∀ x, foldedSetIterable iter X.env x = pure x) :
    SS X W wx (.For tg iter sb [] pos) (fun l m => match fi l m with
      | .ok w m1 => forLoop w.2 t gb w.1 l m1
      | .exc c fs m1 => .exc l c fs m1
      | .err => .err) := by
  obtain ⟨wi, p, q⟩ := hi.ex
  obtain ⟨tb, pb, qb⟩ := hb.ex
  refine ⟨_, ps_for hp hc p hg pb hs, fun σ H ρ l m D ss s po => ?_⟩
  refine q σ H ρ l m _ ss s ?_
  cases e : fi l m with
  | err => rw [e] at po; exact po.elim
  | exc c fs m1 => rw [e] at po; exact fun ρ' H' cls d a b ee => po ρ' H' σ cls d a b (ss.ext a) ee
  | ok w m1 =>
    rw [e] at po
    obtain ⟨xs, chk⟩ := w
    intro ρ1 H1 J x1 s1 wk
    have po1 : PostF W wx ρ1 m1.length H1 (forLoop chk t gb xs l m1) D := PostF.ext po x1
    refine ⟨fun i n σ H => n = xs.length - i ∧ i ≤ xs.length ∧ ∃ ρ l m, Ext W.K ρ1 m1.length H1 ρ m.length H ∧ SimS W.K ρ m.length H l σ ∧ Sim W ρ m H ∧ PostF W wx ρ m.length H (forLoop chk t gb (xs.drop i) l m) D, ⟨xs.length, by simp, Nat.zero_le _, ρ1, l, m1, Ext.refl, ss.ext x1, s1, po1⟩, ?_⟩
    rintro i n σ2 H2 ⟨en, hi, ρ2, l2, m2, x2, ss2, s2, po2⟩
    by_cases hlt : i < xs.length
    · obtain ⟨v, hv⟩ : ∃ v, xs[i]? = some v := ⟨xs[i], by simp [hlt]⟩
      obtain ⟨_, ev⟩ := List.getElem?_eq_some_iff.mp hv
      rw [List.drop_eq_getElem_cons hlt, ev] at po2
      unfold forLoop at po2
      split at po2
      · rename_i st
        split at po2
        · rename_i l' el
          obtain ⟨go, yl⟩ := wk.go i ρ2 m2 H2 v x2.trw s2 st hv
          refine .inr ⟨go, fun σ' H' => ∃ ρ l m, Ext W.K ρ1 m1.length H1 ρ m.length H' ∧ SimS W.K ρ m.length H' l σ' ∧ Sim W ρ m H' ∧ PostF W wx ρ m.length H' (forLoop chk t gb (xs.drop (i + 1)) l m) D, fun σ' H' h => ⟨xs.length - (i + 1), by omega, rfl, hlt, h⟩, fun x H' hy => ?_⟩
          obtain ⟨hH', rv⟩ := yl x H' hy
          obtain ⟨xe, s3⟩ := yld_ext s2 ss2 hH'
          refine ⟨ρ2, l2, m2, v, l', ss2.ext xe, s3, rv, el, fun σ' ss' _ _ => ?_⟩
          refine qb σ' H' ρ2 l' m2 _ ss' s3 ?_
          have po' := PostF.ext po2 xe
          have x3 := x2.trans xe
          cases eb : gb l' m2 with
          | nx l4 m4 => rw [eb] at po'; exact fun ρ4 H4 σ4 x4 s4 ss4 => ⟨ρ4, l4, m4, x3.trans x4, ss4, s4, PostF.ext po' x4⟩
          | cnt l4 m4 => rw [eb] at po'; exact fun ρ4 H4 σ4 x4 s4 ss4 => ⟨ρ4, l4, m4, x3.trans x4, ss4, s4, PostF.ext po' x4⟩
          | brk l4 m4 => rw [eb] at po'; exact po'
          | ret v4 m4 => rw [eb] at po'; exact po'
          | exc l4 c4 f4 m4 => rw [eb] at po'; exact po'
          | err => rw [eb] at po'; exact po'
        · exact po2.elim
      · exact po2.elim
    · have ei : i = xs.length := by omega
      subst ei
      rw [List.drop_length] at po2
      unfold forLoop at po2
      split at po2
      · rename_i st
        exact .inl ⟨wk.stop xs.length ρ2 m2 H2 x2.trw s2 st (Nat.le_refl _), po2 ρ2 H2 σ2 Ext.refl s2 ss2⟩
      · exact po2.elim
end
end Py

namespace Py
open PySem PySem.Spec PyProof.Rows L2

theorem ent_get {K : PySem.W.Frag} {ρ : Nat → Addr} {n : Nat} {H : Hp} {kvs : List (Val × Val)} {us : List (List Key × V)} (h : EntT K ρ n H kvs us) : ∀ {i : Nat} {k : Val} {v : Val} {k' : List Key} {y : V}, kvs[i]? = some (k, v) → us[i]? = some (k', y) → Rep K ρ n H v y := by
  induction h with
  | nil => intro i k v k' y h1; simp at h1
  | cons a b _ ih =>
    intro i k v k' y h1 h2
    cases i with
    | zero =>
      simp only [List.getElem?_cons_zero, Option.some.injEq, Prod.mk.injEq] at h1 h2
      obtain ⟨_, rfl⟩ := h1
      obtain ⟨_, rfl⟩ := h2
      exact b
    | succ i =>
      simp only [List.getElem?_cons_succ] at h1 h2
      exact ih h1 h2
section
variable {X : Cx} {W : Wd} {wx : WX} {st : Stmt} {e o i : Expr} {f fo fi : Py.Loc → Mem → Res Val} {g : Py.Loc → Mem → Flow} {pos pos' tpos : Pos}
theorem ss_dput (hu : X.A.units + 1 < cLine) (ho : SE X W wx o fo) (hi : SE X W wx i fi) (h : SE X W wx e f) (hs : swapsWith e (some (.Subscript o i pos')) pos.line X.env = pure false) :
    SS X W wx (.Assign [.Subscript o i pos'] e pos) (fun l m => bindF l (f l m) fun v m1 => bindF l (fo l m1) fun x m2 => bindF l (fi l m2) fun y m3 => dputF v x y l m3) := by
  obtain ⟨t, p, q⟩ := h.ex
  obtain ⟨to, po, qo⟩ := ho.ex
  obtain ⟨ti, pi, qi⟩ := hi.ex
  refine ⟨_, ps_dput hu po pi p hs, fun σ H ρ l m D ss s pp => ?_⟩
  refine q σ H ρ l m _ ss s ((PostF.bind ss pp).mono fun u H1 ⟨v, m1, ρ1, A, p1⟩ => ?_)
  refine qo σ H1 ρ1 l m1 _ A.ss A.sim ((PostF.bind A.ss p1).mono fun w H2 ⟨x, m2, ρ2, B, p2⟩ => ?_)
  refine qi σ H2 ρ2 l m2 _ B.ss B.sim ((PostF.bind B.ss p2).mono fun z H3 ⟨y, m3, ρ3, C, p3⟩ => ?_)
  have rx := B.rep.ext C.ext
  have rv := (A.rep.ext B.ext).ext C.ext
  unfold dputF at p3
  split at p3
  · rename_i k kvs ed
    split at p3
    · rename_i hh
      obtain ⟨hk, hl⟩ := hh
      obtain ⟨e1, e2, e3, e4, us, e5, e6⟩ := C.sim.dct rx ed
      obtain ⟨xs, ks, b0, g1, g2, g3, g4⟩ := key_at hk C.rep
      subst g1 g2 e2
      have hf := nfd' e4
      have hln : (m3.set k (Ob.dict true (dput kvs (.tup xs) v))).length = m3.length := by simp
      refine ⟨_, _, rfl, .t e5 g4 (by rw [← e6.length, ← sz_line]; exact hl), ?_⟩
      exact p3 ρ3 _ σ (by rw [hln]; exact ext_put C.sim e3 e5 hf) (C.sim.put e3 hf (.dT (e6.put g3 rv))) (by rw [hln]; exact C.ss.ext (ext_put C.sim e3 e5 hf))
    · exact p3.elim
  · exact p3.elim
/-! del d[k] -/
theorem dropH_without {xs : List (List Key × Addr × Value)} {k : List Key} : withoutH xs k = DT.dropH xs k := rfl
def sDelT (td ty : TE) : TS := fun D σ H => td σ H fun x H1 => ty σ H1 fun y H2 => ∃ a kvs k b, x = .ref a ∧ H2 a = some (.dT kvs) ∧ y = .ref b ∧ H2 b = some (.tup (k.map kV)) ∧ (valV kvs k).isSome = true ∧ D.nx σ (upd H2 a (.dT (dropK kvs k)))
theorem ps_delT {td ty : TE} (hu : X.A.units + 1 < cLine) (ho : PE X o td) (hi : PE X i ty) : PS X (.Delete [.Subscript o i tpos] pos) (sDelT td ty) := by
  refine ⟨fun pins s σ H D I h => ?_⟩
  refine wpAny_Delete (wpAny_deleteEach_cons (wpAny_delete_Subscript (thn (ho.run pins s σ H _ I h) fun u s1 ⟨x, H1, I1, rx, q1⟩ => thn (hi.run pins s1 σ H1 _ I1 q1) fun iv s2 ⟨y, H2, I2, ry, a, kvs, k, b, ex, e, ey, eb, l, q2⟩ => ?_)))
  subst ex ey
  obtain rfl : u = Value.ref a := rx
  obtain rfl : iv = Value.ref b := ry
  obtain ⟨z, hd, xs', rel, dd⟩ := dt_of I2.hok e
  have hz : xs'.length ≤ sizeLine := by rw [← Paired.length rel]; exact z
  obtain ⟨p, hp⟩ : ∃ p, atKey xs' k = some p := by
    have r := (rel.val k).isSome_eq
    rw [l, Option.isSome_map] at r
    exact Option.isSome_iff_exists.mp r.symm
  refine wpAny_delItem_heap (hsz := hz) (tupleKind_room_in1 hu) (key_of I2.hok eb) hd dd hp fun h' dd' hs => ?_
  obtain ⟨q, es, ep, hq, h2, h3, h4, _, h5⟩ := dd'
  refine wpAny_deleteEach_nil ⟨σ, _, ?_, q2⟩
  refine d_write I2 (by rw [e]; exact True.intro) hs ⟨q, hq⟩ ⟨Nat.le_trans (dropK_le kvs k) z, hd, _, (L2.DX.KT_drop k rel).keeps fun c ys ec => ?_, q, es, ep, hq, h2, h3, h4, h5⟩
  rw [upd_ne (ne_of ec e (fun z => nomatch z))]
  exact ec
theorem ss_ddel (hu : X.A.units + 1 < cLine) (ho : SE X W wx o fo) (hi : SE X W wx i fi) :
    SS X W wx (.Delete [.Subscript o i tpos] pos) (fun l m => bindF l (fo l m) fun x m1 => bindF l (fi l m1) fun y m2 => ddelF x y l m2) := by
  obtain ⟨to, po, qo⟩ := ho.ex
  obtain ⟨ti, pi, qi⟩ := hi.ex
  refine ⟨_, ps_delT hu po pi, fun σ H ρ l m D ss s pp => ?_⟩
  refine qo σ H ρ l m _ ss s ((PostF.bind ss pp).mono fun w H2 ⟨x, m2, ρ2, B, p2⟩ => ?_)
  refine qi σ H2 ρ2 l m2 _ B.ss B.sim ((PostF.bind B.ss p2).mono fun z H3 ⟨y, m3, ρ3, C, p3⟩ => ?_)
  have rx := B.rep.ext C.ext
  unfold ddelF at p3
  split at p3
  · rename_i k kvs ed
    split at p3
    · rename_i hh
      obtain ⟨hk, hl⟩ := hh
      obtain ⟨e1, e2, e3, e4, us, e5, e6⟩ := C.sim.dct rx ed
      obtain ⟨xs, ks, b0, g1, g2, g3, g4⟩ := key_at hk C.rep
      subst g1 g2 e2
      have hf := nfd' e4
      have hln : (m3.set k (Ob.dict true (ddel kvs (.tup xs)))).length = m3.length := by simp
      refine ⟨_, _, ks, _, rfl, e5, rfl, g4, by rw [e6.look' g3]; exact hl, ?_⟩
      exact p3 ρ3 _ σ (by rw [hln]; exact ext_put C.sim e3 e5 hf) (C.sim.put e3 hf (.dT (e6.del g3))) (by rw [hln]; exact C.ss.ext (ext_put C.sim e3 e5 hf))
    · exact p3.elim
  · exact p3.elim

end
/-! d.pop(k) -/
section
variable {X : Cx} {W : Wd} {wx : WX} {st : Stmt} {e o i : Expr} {f fo fi : Py.Loc → Mem → Res Val} {g : Py.Loc → Mem → Flow} {pos pos' tpos apos : Pos}
def tDPopT (td ty : TE) : TE := fun σ H Q => td σ H fun x H1 => ∃ a, x = .ref a ∧ IsD H1 a ∧ ty σ H1 fun y H2 => ∃ kvs k b v, H2 a = some (.dT kvs) ∧ y = .ref b ∧ H2 b = some (.tup (k.map kV)) ∧ valV kvs k = some v ∧ Q v (upd H2 a (.dT (dropK kvs k)))
theorem pe_dpopT {td ty : TE} (hu : X.A.units + 1 < cLine) (ho : PE X o td) (he : PE X i ty) (m : M1 X o "pop" apos i pos) : PE X (.Call (.Attribute o "pop" apos) [i] [] pos) (tDPopT td ty) := by
  refine ⟨fun pins s σ H Q I h => ?_⟩
  refine wpAny_Call_method m.base m.few m.line PySem.F.plainAttrs_dict PySem.F.slot_dict_pop PySem.F.type_dict_pop (thn (ho.run pins s σ H _ I h) fun u s1 ⟨x, H1, I1, rx, a, ex, d, q1⟩ => ?_)
  subst ex
  obtain rfl : u = Value.ref a := rx
  obtain ⟨t1, t2, _⟩ := isD_at I1 d
  refine ⟨t1, t2, ?_⟩
  rw [m.trees]
  refine Calls.callWith_builtin rfl (Calls.evalArgs_plain (Calls.spliced_cons (thn (he.run pins s1 σ H1 _ I1 q1) fun iv s2 ⟨y, H2, I2, ry, kvs, k, b, v, e, ey, eb, l, q2⟩ => Calls.spliced_nil ?_)))
  subst ey
  obtain rfl : iv = Value.ref b := ry
  obtain ⟨z, hd, xs', rel, dd⟩ := dt_of I2.hok e
  have hz : xs'.length ≤ sizeLine := by rw [← Paired.length rel]; exact z
  obtain ⟨p, hp, rv⟩ : ∃ p, atKey xs' k = some p ∧ RelV v p.2 := by
    have r := rel.val k
    rw [l] at r
    cases hp : atKey xs' k with
    | none => rw [hp] at r; exact (show False from r).elim
    | some p => rw [hp] at r; exact ⟨p, rfl, r⟩
  refine call_pop_heap (more := []) (.inl rfl) (PySem.F.args_dict_pop_2 _ _) (tupleKind_room_in1 hu) (key_of I2.hok eb) hd dd hp (fun h' dd' hs => ?_) hz
  obtain ⟨q, es, ep, hq, h2, h3, h4, _, h5⟩ := dd'
  refine ⟨v, _, ?_, rv, q2⟩
  refine d_write I2 (by rw [e]; exact True.intro) hs ⟨q, hq⟩ ⟨Nat.le_trans (dropK_le kvs k) z, hd, _, (L2.DX.KT_drop k rel).keeps fun c ys ec => ?_, q, es, ep, hq, h2, h3, h4, h5⟩
  rw [upd_ne (ne_of ec e (fun z => nomatch z))]
  exact ec
theorem se_dpop (hu : X.A.units + 1 < cLine) (hm : M1 X o "pop" apos i pos) (ho : SE X W wx o fo) (hi : SE X W wx i fi) :
    SE X W wx (.Call (.Attribute o "pop" apos) [i] [] pos) (fun l m => (fo l m).bind fun x m1 => isDctR x m1 ((fi l m1).bind fun y m2 => dpopR x y m2)) := by
  obtain ⟨to, po, qo⟩ := ho.ex
  obtain ⟨ti, pi, qi⟩ := hi.ex
  refine ⟨_, pe_dpopT hu po pi hm, fun σ H ρ l m Q ss s pp => ?_⟩
  refine qo σ H ρ l m _ ss s ((Post.bind ss pp).mono fun w H2 ⟨x, m2, ρ2, B, p2⟩ => ?_)
  unfold isDctR at p2
  split at p2
  · rename_i kk e0
    obtain ⟨k0, kv0⟩ := kk
    obtain ⟨f1, f2, f3, f4, us0, f5, f6⟩ := B.sim.dct B.rep e0
    refine ⟨_, f2, .inr ⟨us0, .inl f5⟩, ?_⟩
    refine qi σ H2 ρ2 l m2 _ B.ss B.sim ((Post.bind B.ss p2).mono fun z H3 ⟨y, m3, ρ3, C, p3⟩ => ?_)
    have rx := B.rep.ext C.ext
    rw [f2] at rx
    unfold dpopR at p3
    split at p3
    · rename_i k kvs ed
      split at p3
      · rename_i hk
        split at p3
        · rename_i v hl
          obtain ⟨e1, e2, e3, e4, us, e5, e6⟩ := C.sim.dct rx ed
          have e2' := V.ref.inj e2
          obtain ⟨xs, ks, b0, g1, g2, g3, g4⟩ := key_at hk C.rep
          subst g1 g2
          have hf := nfd' e4
          obtain ⟨u0, l1, l2⟩ := (e6.look g3).1 v hl
          refine ⟨us, ks, _, u0, by rw [e2']; exact e5, rfl, g4, l1, ?_⟩
          rw [e2']
          exact C.sim.putv e3 hf p3 (.dT (e6.del g3)) l2
        · exact p3.elim
      · exact p3.elim
    · exact p3.elim
  · exact p2.elim
end
section
variable {X : Cx} {W : Wd} {wx : WX} {st : Stmt} {e o i : Expr} {f fo fi : Py.Loc → Mem → Res Val} {g : Py.Loc → Mem → Flow} {pos pos' tpos : Pos}

/-! ### a dict that is walked is locked -/
theorem ext_lock {ρ ρ' : Nat → Addr} {m m' : Mem} {H H' : Hp} {k : Nat} {us : List (List Key × V)} {od : Obj} (s : Sim W ρ m H) (hk : k < m.length) (hd : H (ρ k) = some (.dT us))
    (x : Ext W.K ρ m.length (upd H (ρ k) (.frz od (.dT us))) ρ' m'.length H') : Ext W.K ρ m.length H ρ' m'.length (upd H' (ρ k) (.dT us)) where
  le := x.le
  agree := x.agree
  tups := fun a xs h => by
    rcases h with (h | ⟨ob, h⟩) | h
    · have ne : a ≠ ρ k := fun z => by rw [z, hd] at h; cases h
      have := x.tupt a _ (.tup _) (by rw [upd_ne ne]; exact h)
      exact .inl (.inl (by rw [upd_ne ne]; exact this))
    · have ne : a ≠ ρ k := fun z => by rw [z, hd] at h; cases h
      have := x.tupt a _ (.frz ob _) (by rw [upd_ne ne]; exact h)
      exact .inl (.inr ⟨ob, by rw [upd_ne ne]; exact this⟩)
    · exact .inr h
  tupt := fun a w z h => by
    have ne : a ≠ ρ k := fun q => by rw [q, hd] at h; cases h; cases z
    have := x.tupt a w z (by rw [upd_ne ne]; exact h)
    rw [upd_ne ne]; exact this
  frame := fun b o h hn => by
    have ne : b ≠ ρ k := fun q => hn k hk q.symm
    rw [upd_ne ne]
    exact x.frame b o (by rw [upd_ne ne]; exact h) hn
  keep := fun b h => by
    by_cases e : b = ρ k
    · subst e; rw [upd_same]; simp
    · rw [upd_ne e]; exact x.keep b (by rw [upd_ne e]; exact h)
  fresh := fun j h1 h2 => by
    have q := x.fresh j h1 h2
    by_cases e : ρ' j = ρ k
    · rw [e, upd_same] at q; cases q
    · rw [upd_ne e] at q; exact q
theorem sim_lock {ρ : Nat → Addr} {m : Mem} {H : Hp} {k : Nat} {kvs : List (Val × Val)} {us : List (List Key × V)} (od : Obj) (s : Sim W ρ m H) (hm : m[k]? = some (.dict true kvs)) (hd : H (ρ k) = some (.dT us)) (r : EntT W.K ρ m.length H kvs us) :
    Sim W ρ (m.set k (.fdict kvs)) (upd H (ρ k) (.frz od (.dT us))) ∧ Ext W.K ρ m.length H ρ (m.set k (.fdict kvs)).length (upd H (ρ k) (.frz od (.dT us))) := by
  have hk : k < m.length := (List.getElem?_eq_some_iff.mp hm).1
  have hln : (m.set k (Ob.fdict kvs)).length = m.length := by simp
  exact ⟨s.put hk (nfd' hm) (.fd r), by rw [hln]; exact ext_put s hk hd (nfd' hm)⟩
/-- unlocked again -/
theorem sim_unlock {ρ ρ' : Nat → Addr} {m m' : Mem} {H H' : Hp} {k : Nat} {kvs : List (Val × Val)} {us : List (List Key × V)} {od : Obj} (s : Sim W ρ m H) (hm : m[k]? = some (.dict true kvs)) (hd : H (ρ k) = some (.dT us)) (r : EntT W.K ρ m.length H kvs us)
    (x : Ext W.K ρ m.length (upd H (ρ k) (.frz od (.dT us))) ρ' m'.length H') (s' : Sim W ρ' m' H') :
    H' (ρ k) = some (.frz od (.dT us)) ∧ Sim W ρ' (m'.set k (.dict true kvs)) (upd H' (ρ k) (.dT us)) ∧ Tr W.K ρ' m'.length H' ρ' m'.length (upd H' (ρ k) (.dT us)) := by
  have hk : k < m.length := (List.getElem?_eq_some_iff.mp hm).1
  have hk' : k < m'.length := Nat.lt_of_lt_of_le hk x.le
  have hz : H' (ρ k) = some (.frz od (.dT us)) := x.tupt _ _ (.frz _ _) upd_same
  have r' : EntT W.K ρ' m'.length H' kvs us := (r.tr (ext_put s hk hd (nfd' hm)).tr).tr x.tr
  have tr : Tr W.K ρ' m'.length H' ρ' m'.length (upd H' (ρ k) (.dT us)) := by
    refine ⟨Nat.le_refl _, fun _ _ => rfl, fun a xs h => ?_, fun a w z h => ?_⟩
    · rcases h with (h | ⟨ob, h⟩) | h
      · have ne : a ≠ ρ k := fun q => by rw [q, hz] at h; cases h
        exact .inl (.inl (by rw [upd_ne ne]; exact h))
      · have ne : a ≠ ρ k := fun q => by rw [q, hz] at h; cases h
        exact .inl (.inr ⟨ob, by rw [upd_ne ne]; exact h⟩)
      · exact .inr h
    · have ne : a ≠ ρ k := fun q => by rw [q, hz] at h; cases h; cases z
      rw [upd_ne ne]; exact h
  refine ⟨hz, ⟨fun i j hi hj e => s'.inj i j (by simpa using hi) (by simpa using hj) e, fun i ob h => ?_⟩, tr⟩
  rw [List.length_set]
  by_cases e : k = i
  · subst e
    rw [List.getElem?_set_self hk'] at h
    cases h
    exact ⟨_, by rw [x.agree _ hk]; exact upd_same, .dT (r'.tr tr)⟩
  · rw [List.getElem?_set_ne e] at h
    obtain ⟨v, a, b⟩ := s'.obj i ob h
    have hi : i < m'.length := (List.getElem?_eq_some_iff.mp h).1
    exact ⟨v, by rw [upd_ne (fun q => e (s'.inj k i hk' hi (by rw [x.agree _ hk]; exact q.symm)))]; exact a, b.tr tr⟩
theorem ss_lock (he : True) (h : SS X W wx st g) : SS X W wx st (fun l m => lockF (f l m) m (g l)) := by
  obtain ⟨t, p, q⟩ := h.ex
  refine ⟨_, ps_lock p, fun σ H ρ l m D ss s pp => ?_⟩
  unfold lockF at pp
  split at pp
  · rename_i k m0 e0
    split at pp
    · rename_i kvs hm
      obtain ⟨u, hd, r0⟩ := s.obj k _ hm
      cases r0 with
      | @dT _ us r =>
        have hk : k < m.length := (List.getElem?_eq_some_iff.mp hm).1
        have hln : (m.set k (Ob.fdict kvs)).length = m.length := by simp
        refine ⟨ρ k, .dT us, hd, True.intro, fun od => ?_⟩
        obtain ⟨s1, x1⟩ := sim_lock od s hm hd r
        refine q σ _ ρ l _ _ (ss.ext x1) s1 ?_
        rw [hln]
        cases eg : g l (m.set k (.fdict kvs)) with
        | nx l' m' =>
          rw [eg] at pp
          intro ρ' H' σ' x s' ss'
          obtain ⟨hz, su, tu⟩ := sim_unlock s hm hd r x s'
          refine ⟨hz, pp ρ' _ σ' ?_ su ?_⟩
          · rw [List.length_set]; exact ext_lock s hk hd x
          · rw [List.length_set]; exact ss'.tr tu
        | brk l' m' =>
          rw [eg] at pp
          intro ρ' H' σ' x s' ss'
          obtain ⟨hz, su, tu⟩ := sim_unlock s hm hd r x s'
          refine ⟨hz, pp ρ' _ σ' ?_ su ?_⟩
          · rw [List.length_set]; exact ext_lock s hk hd x
          · rw [List.length_set]; exact ss'.tr tu
        | cnt l' m' =>
          rw [eg] at pp
          intro ρ' H' σ' x s' ss'
          obtain ⟨hz, su, tu⟩ := sim_unlock s hm hd r x s'
          refine ⟨hz, pp ρ' _ σ' ?_ su ?_⟩
          · rw [List.length_set]; exact ext_lock s hk hd x
          · rw [List.length_set]; exact ss'.tr tu
        | ret v m' =>
          rw [eg] at pp
          intro ρ' H' u x s' ru
          obtain ⟨hz, su, tu⟩ := sim_unlock s hm hd r x s'
          refine ⟨hz, pp ρ' _ u ?_ su ?_⟩
          · rw [List.length_set]; exact ext_lock s hk hd x
          · rw [List.length_set]; exact ru.tr tu
        | exc _ _ _ _ => rw [eg] at pp; exact pp.elim
        | err => rw [eg] at pp; exact pp.elim
    · exact pp.elim
  · exact pp.elim
end
/-! ### for x in d.values() -/
/-- the values of the locked dict at d -/
def Itdt (d : Addr) (o : Obj) (kvs : List (List Key × V)) : L2.It :=
  ⟨fun i H => H d = some (.frz o (.dT kvs)) ∧ i < kvs.length, fun i H x H' => H' = H ∧ ∃ k, kvs[i]? = some (k, x), fun i H => H d = some (.frz o (.dT kvs)) ∧ kvs.length ≤ i⟩
section
variable {X : Cx} {pins : List (Addr × Obj)} {σ : L2.St} {H : Hp} {s : Shared} {d : Addr} {o : Obj}
theorem frzTv {kvs : List (List Key × V)} (I : Inv X pins σ H s) (h : H d = some (.frz o (.dT kvs))) :
    (d == sysModules) = false ∧ s.heap.get? d = some o ∧ o.ExactDict ∧ ∃ (es : Array DictEntry) (ep : Nat), o.data = .dict es ep ∧ es.size = kvs.length ∧
      ∀ (i : Nat) (k : List Key) (v : V), kvs[i]? = some (k, v) → ∃ en : DictEntry, es[i]? = some en ∧ RelV v en.val := by
  obtain ⟨hd, z, hs, xs, pr, o', es, ep, ho, hx, hdt, he, _⟩ := I.hok d _ h
  rw [hd] at ho
  cases ho
  refine ⟨hs, hd, hx, es, ep, hdt, ?_, fun i k v e => ?_⟩
  · have l1 : es.size = xs.length := size_of_entries he
    have l2 : kvs.length = xs.length := Paired.length pr
    omega
  · obtain ⟨b, hb, e1, e2, e3⟩ := paired_get pr e
    have q := entry_at he i
    rw [hb] at q
    exact ⟨_, q, e3⟩
end
section
variable {P : Program} {w : World} {K : PySem.W.Frag} {tg : Expr} {d : Addr} {o : Obj} {es : Array DictEntry} {ep : Nat}
theorem turn_valsT {kvs : List (List Key × V)} (it : Addr) (hod : o.data = .dict es ep) : Turn P w K tg (Itdt d o kvs) [it] it (fun i h => h.IsValIter it d i kvs.length ep) where
  mem := by simp
  obj := fun i h st b hb => by
    have e : b = it := by simpa using hb
    subst e
    obtain ⟨oi, e, c, dd⟩ := st
    exact ⟨oi, e, fun v z => by rw [dd] at z; cases z⟩
  keep := fun i h h' st k => st.at fun oi e => k it (by simp) oi e
  item := by
    intro X hP hw hK hc i pins s σ H E I hf st hg
    subst hP hw hK
    obtain ⟨hd, hi⟩ := hg
    obtain ⟨f0, f1, f2, f3, f4, f5⟩ := hf it (by simp)
    obtain ⟨hs, hgd, hx, es', ep', hdt, hsz, ent⟩ := frzTv I hd
    obtain ⟨rfl, rfl⟩ := dict_ep hod hdt
    obtain ⟨⟨k, v⟩, hkv⟩ : ∃ p, kvs[i]? = some p := ⟨kvs[i], List.getElem?_eq_getElem hi⟩
    obtain ⟨en, hen, rv⟩ := ent i k v hkv
    have hlt : i < es'.size := by omega
    have een : es'[i] = en := by
      have := Array.getElem?_eq_getElem hlt
      rw [hen] at this
      exact (Option.some.inj this).symm
    rw [← hsz] at st
    refine wpAny_pyNext_values_item_raw st ⟨o, hgd, hx, hdt⟩ hlt fun h' st' sb => ?_
    have I1 : Inv X pins σ H { s with heap := h' } := I.turned (t' := s.toks) (fun b ob hb e => (sb.2 b hb).trans e) f0 f1 f3 f4 f5
    obtain ⟨oi, e, c, dd⟩ := id st'
    refine ⟨es'[i].val, rfl, go_of (s := { s with heap := h' }) e c dd (by decide) ⟨v, H, I1, by rw [een]; exact rv, ⟨rfl, k, hkv⟩, ?_, fun b hb => (hf b hb).1⟩⟩
    show h'.IsValIter it d (i + 1) kvs.length _
    rw [← hsz]
    exact st'
  done := by
    intro X hP hw hK hc i pins s σ H E I hf st hg
    subst hP hw hK
    obtain ⟨hd, hi⟩ := hg
    obtain ⟨f0, f1, f2, f3, f4, f5⟩ := hf it (by simp)
    obtain ⟨hs, hgd, hx, es', ep', hdt, hsz, ent⟩ := frzTv I hd
    obtain ⟨rfl, rfl⟩ := dict_ep hod hdt
    rw [← hsz] at st
    exact wpAny_pyNext_values_end_raw (I.ok.hd hc) st ⟨o, hgd, hx, hdt⟩ (by omega) fun h' eb => ⟨rfl, I.turned (t' := s.toks) (fun b ob hb e => eb b ob hb e) f0 f1 f3 f4 f5⟩
  self := fun A i s Q E st h => wpAny_pyIter_valiter st h
end
def iValsT (td : TE) : TI := fun σ H R => td σ H fun x H1 => ∃ d o kvs, x = .ref d ∧ H1 d = some (.frz o (.dT kvs)) ∧ R (Itdt d o kvs) H1
theorem pi_valuesT {X : Cx} {tg e : Expr} {td : TE} {apos cpos : Pos} (he : PE X e td) (hbase : attributeBase e "values" X.env (eval e X.env) = eval e X.env := by rfl) (hline : (apos.endLine == cpos.line) = true := by rfl) : PI X tg (.Call (.Attribute e "values" apos) [] [] cpos) (iValsT td) := by
  refine ⟨fun pins s σ H R I h => ?_⟩
  refine wpAny_Call_method (T := "dict") (id := "dict.values") hbase rfl hline F.plainAttrs_dict F.slot_dict_values F.type_dict_values (thn (he.run pins s σ H _ I h) fun u s1 ⟨x, H1, I1, rx, d, o, kvs, ex, hd, q⟩ => ?_)
  subst ex
  obtain rfl : u = Value.ref d := rx
  obtain ⟨hs, hgd, hx, es, ep, hdt, hsz, ent⟩ := frzTv I1 hd
  have hr : s1.heap.DictRaw d es ep := ⟨o, hgd, hx, hdt⟩
  refine ⟨hr.typeIs, fun b q => by cases q; exact ⟨o, hgd, hx.2.1⟩, ?_⟩
  have I2 : Inv X pins σ H1 { s1 with heap := s1.heap.push { cls := .type "dict_values", data := .fields #[.ref d] } } := I1.kept (t' := s1.toks) fun b ob q => Heap.get?_push_of_some _ q
  have fin : wpAny (model X.prog X.w) X.A (pyIter (.ref s1.heap.objs.size)) (PIE X pins σ tg R) X.xe { s1 with heap := s1.heap.push { cls := .type "dict_values", data := .fields #[.ref d] } } := by
    refine wpAny_pyIter_values_raw (d := d) (es := es) (ep := ep) ⟨_, Heap.get?_push_size _ rfl, rfl, rfl⟩ (hr.at fun ob q => Heap.get?_push_of_some _ q) (pi_one (tk := s1.toks) I2 _ (turn_valsT _ hdt) ⟨_, Heap.get?_push_size _ rfl, rfl, ?_⟩ q)
    rw [hsz] <;> rfl
  show wpAny _ _ (callWith cpos (.builtin "dict.values") [.ref d] [] []) _ X.xe s1
  exact method_meetsIn F.slot_dict_values F.entry_dict_values rfl (PySem.evalArgs_none ⟨rfl, hr.typeIs, F.args_dict_values_1 _, _, meets_dict_values_raw d hs, ⟨es, ep, hr⟩, fin⟩)
section
variable {X : Cx} {W : Wd} {wx : WX} {tg e : Expr} {fe : Py.Loc → Mem → Res Val} {apos pos : Pos}
theorem si_vals (hb : attributeBase e "values" X.env (eval e X.env) = eval e X.env) (hl : (apos.endLine == pos.line) = true) (he : SE X W wx e fe) :
    SI X W wx tg (.Call (.Attribute e "values" apos) [] [] pos) (fun l m => (fe l m).bind fun x m1 => valsR x m1) := by
  obtain ⟨te, pe, qe⟩ := he.ex
  refine ⟨_, pi_valuesT pe hb hl, fun σ H ρ l m R ss s po => ?_⟩
  refine qe σ H ρ l m _ ss s ((Post.bindI ss po).mono fun u H1 ⟨x, m1, ρ1, A, p1⟩ => ?_)
  unfold valsR at p1
  split at p1
  · rename_i k
    split at p1
    · rename_i kvs ek
      obtain ⟨z, hz, r0⟩ := A.sim.obj k _ ek
      have ru := A.rep
      cases ru
      cases r0 with
      | @fd o _ us r =>
        refine ⟨ρ1 k, o, us, rfl, hz, p1 ρ1 H1 _ Ext.refl A.sim ?_⟩
        refine ⟨fun i ρ2 m2 H2 v x2 s2 _ hv => ?_, fun i ρ2 m2 H2 x2 s2 _ hi => ?_⟩
        · have hz2 := x2.frz _ _ _ hz
          have r2 := r.tr x2.toTr
          rw [List.getElem?_map] at hv
          obtain ⟨⟨kx, vx⟩, h1, h2⟩ := Option.map_eq_some_iff.mp hv
          subst h2
          have hi : i < us.length := by rw [← r.length]; exact (List.getElem?_eq_some_iff.mp h1).1
          refine ⟨⟨hz2, hi⟩, fun y H' ⟨e1, kk, e2⟩ => ?_⟩
          subst e1
          exact ⟨.inl rfl, ent_get r2 h1 e2⟩
        · have hz2 := x2.frz _ _ _ hz
          rw [List.length_map] at hi
          exact ⟨hz2, by rw [← r.length]; exact hi⟩
    · exact p1.elim
  · exact p1.elim
end
end Py

namespace Py
open PySem PySem.Spec PyProof.Rows L2

def tyStr : TyK → String
  | .none => "NoneType" | .bool => "bool" | .int => "int" | .str => "str" | .tuple => "tuple" | .list => "list" | .dict => "dict"
theorem kit_all (t c : TyK) (hc : c ≠ .none) : kitB (tyStr t) (tyStr c) = some (isiK t c) := by
  cases c with
  | none => exact absurd rfl hc
  | bool => cases t <;> decide +kernel
  | int => cases t <;> decide +kernel
  | str => cases t <;> decide +kernel
  | tuple => cases t <;> decide +kernel
  | list => cases t <;> decide +kernel
  | dict => cases t <;> decide +kernel
theorem boot_ty (c : TyK) (hc : c ≠ .none) : bootBuiltins (tyStr c) = some (.type (tyStr c)) := by
  cases c with
  | none => exact absurd rfl hc
  | bool => decide +kernel
  | int => decide +kernel
  | str => decide +kernel
  | tuple => decide +kernel
  | list => decide +kernel
  | dict => decide +kernel
section
variable {X : Cx} {W : Wd} {wx : WX} {a b c e o : Expr} {es : List Expr} {fa fb fc f fo : Py.Loc → Mem → Res Val} {fr : Py.Loc → Mem → Res (List Val)} {pos p p2 : Pos}
theorem tyX_of (hW : W.K = X.K) {ρ : Nat → Addr} {m : Mem} {H : Hp} {x : Val} {u : V} {t : TyK} (s : Sim W ρ m H) (r : Rep W.K ρ m.length H x u) (e : tyOf m x = some t) : TyX X.K H u (.type (tyStr t)) := by
  cases r with
  | none => cases e; exact .base .non
  | bool _ => cases e; exact .base (.bl _)
  | int _ => cases e; exact .base (.int _)
  | str _ _ => cases e; exact .base (.str _)
  | fro _ => cases e
  | kt _ => cases e
  | tup h _ =>
    cases e
    have q := sqT_of h
    rw [hW] at q
    rcases q with (q | ⟨ob, q⟩) | ⟨ob, its, n, q, hc, _⟩
    · exact .base (.tup q)
    · exact .fTuple q
    · exact .kTuple q hc
  | @ref k hk =>
    unfold tyOf at e
    simp only at e
    split at e
    · rename_i xs ek
      cases e
      obtain ⟨us, q, r⟩ := s.obj k _ ek
      cases r
      exact .base (.lst q)
    · rename_i ek
      cases e
      obtain ⟨us, q, r⟩ := s.obj k _ ek
      cases r
      · exact .base (.dK q)
      · exact .base (.dT q)
    · cases e
theorem se_isi (hW : W.K = X.K) (c : TyK) (hc : c ≠ .none) (hg : Gl X "isinstance") (hm : X.mg "isinstance" = none) (hg2 : Gl X (tyStr c)) (hm2 : X.mg (tyStr c) = none)
    (hs1 : starEach [a, .Name (tyStr c) p2] X.env = (false, eval a X.env) :: starEach [.Name (tyStr c) p2] X.env) (ha : SE X W wx a fa) :
    SE X W wx (.Call (.Name "isinstance" p) [a, .Name (tyStr c) p2] [] pos) (fun l m => (fa l m).bind fun x m1 => match tyOf m1 x with
      | some t => .ok (.bool (isiK t c)) m1
      | none => .err) := by
  obtain ⟨ta, pa, qa⟩ := ha.ex
  have hn : ((tyStr c : String) : PySem.Str) ≠ "__name__" := by cases c <;> decide +kernel
  have hd : (((tyStr c : String) : PySem.Str) == ("__debug__" : PySem.Str)) = false := by cases c <;> decide +kernel
  have pt : PE X (.Name (tyStr c) p2) (tC (.ty (tyStr c))) := pe_bltn (v := .ty (tyStr c)) hg2 hm2 (boot_ty c hc) rfl hn hd
  refine ⟨_, pe_callB call_isi hg hm PyProof.Rows.boot_isinstance (pa_cons pa (pa_cons pt pa_nil) hs1) (by decide +kernel) (by decide +kernel) hs1, fun σ H ρ l m Q ss s po => ?_⟩
  refine qa σ H ρ l m _ ss s ((Post.bind ss po).mono fun u H1 ⟨x, m1, ρ1, A, p1⟩ => ?_)
  split at p1
  · rename_i t et
    exact ⟨u, _, _, _, isiK t c, rfl, .ty _, tyX_of hW A.sim A.rep et, kit_ty (kit_all t c hc), A.sim.one p1 (.bool _)⟩
  · exact p1.elim

/-! ### an instance is made -/
variable {k : Nat} {f0 C0 : Addr} {fd : FuncData} {ps : List PySem.Str} {cn inn : PySem.Str} {Cc : Calls}
theorem run_makeS {pins : List (Addr × Obj)} {σ : L2.St} {H : Hp} {s : Shared} {Q : VK} {us : List Value} {vs : List V} {CX : CXT} {sp : Sp} {E : L2.St → XK} (M : Mk X.K C0 f0) (F : FnOk X.prog X.w X.K X.mg X.base CX k f0 fd ps sp) (hr : Room (k + 1) X.A) (hb : Binds X.K fd ps [])
    (hx : PassesAt CX X σ (E σ)) (I : Inv X pins σ H s) (r : Vals vs us)
    (h : ∀ x dx, H x = none → H dx = none → dx ≠ x → sp (.ref x :: vs) (upd (upd H dx (.own x)) x (.ins C0 dx [])) (fun v H2 => v = .non ∧ Q (.ref x) H2) (E σ)) :
    wpAny (model X.prog X.w) X.A (call (.ref C0) us) (EP X pins σ Q) X.xe s := by
  have hq := h (s.heap.objs.size + 1) s.heap.objs.size (I.hok.fresh (Nat.le_succ _)) (I.hok.fresh (Nat.le_refl _)) (Nat.ne_of_lt (Nat.lt_succ_self _))
  have I2 := Inv.made (C := C0) I
  have r2 : Vals (V.ref (s.heap.objs.size + 1) :: vs) (Value.ref (s.heap.objs.size + 1) :: us) := .cons rfl r
  have hl : (Value.ref (s.heap.objs.size + 1) :: us ++ []).length = ps.length := by
    have e := r2.length
    rw [F.len _ _ _ _ hq] at e
    rw [List.append_nil]
    exact e.symm
  have hb' := hb _ (Value.ref (s.heap.objs.size + 1) :: us) I2.kIn hl
  rw [List.append_nil] at hb'
  refine wpAny_call (make_map (f := f0) I.kIn M.makes M.init (beq_iff_eq.mp M.fn) (codeAny_mono (F.run _ X.stack _ _ ⟨Value.ref (s.heap.objs.size + 1) :: us, []⟩ (Value.ref (s.heap.objs.size + 1) :: us) _ _ (E σ) (hr.make C0 us [])
    (I2.env0.make C0 us []) hb' r2 hq) fun r s' hq' => ?_))
  cases r with
  | error e => exact hx pins _ _ e s' I2 hq'
  | ok fl =>
    cases fl with
    | ret u =>
      obtain ⟨v, H', I3, rv, ev, q3⟩ := I2.after hq'
      subst ev
      exact ⟨rv, ⟨V.ref (s.heap.objs.size + 1), H', I3, rfl, q3⟩⟩
    | next => exact False.elim hq'
    | brk => exact False.elim hq'
    | cont => exact False.elim hq'
/-- from the plain run of a class's call to its __init__'s promise -/
theorem make_post {σ : L2.St} {ρ : Nat → Addr} {m : Mem} {H : Hp} {xs : List Val} {us : List V} {Q : VK} (hC : Cls W.K (W.cad cn)) (s : Sim W ρ m H) (r : RepL W.K ρ m.length H xs us)
    (p : Post W wx σ ρ m.length H (gc m ((Cc inn (.ref m.length :: xs) (m ++ [.inst cn []])).bind (mkG m.length))) Q) (x dx : Addr) (hx : H x = none) (hdx : H dx = none) (ne : dx ≠ x) :
    spC W Cc inn (.ref x :: us) (upd (upd H dx (.own x)) x (.ins (W.cad cn) dx [])) (fun v H2 => v = .non ∧ Q (.ref x) H2) (WE wx σ) := by
  have p1 := gc_ok s p
  have x1 : Ext W.K ρ m.length H ρ m.length (upd H dx (.own x)) := ext_laid hdx
  have s1 : Sim W ρ m (upd H dx (.own x)) := s.laid hdx
  have hx1 : (upd H dx (.own x)) x = none := by rw [upd_ne ne.symm]; exact hx
  have x2 := ext_new (K := W.K) (ρ := ρ) (n := m.length) (o := .ins (W.cad cn) dx []) hx1
  have s2 := s1.new (ob := .inst cn []) hx1 (.inst (dx := dx) .nil hC fun f u e => (nomatch e))
  have hl : (m ++ [Ob.inst cn []]).length = m.length + 1 := by simp
  have x12 := x1.trans x2
  have rr := (r.ext x12)
  have r0 : Rep W.K (fun i => if i = m.length then x else ρ i) (m.length + 1) (upd (upd H dx (.own x)) x (.ins (W.cad cn) dx [])) (.ref m.length) (.ref x) := by
    have h := Rep.ref (K := W.K) (ρ := fun i => if i = m.length then x else ρ i) (n := m.length + 1) (H := upd (upd H dx (.own x)) x (.ins (W.cad cn) dx [])) (k := m.length) (Nat.lt_succ_self _)
    simp only [if_true] at h
    exact h
  refine ⟨_, m ++ [.inst cn []], .ref m.length :: xs, s2, by rw [hl]; exact .cons r0 rr, ?_⟩
  have p2 := post_call (p1.ext x12)
  rw [hl]
  cases e : Cc inn (.ref m.length :: xs) (m ++ [.inst cn []]) with
  | ok v m1 =>
    rw [e] at p2
    intro ρ3 H3 u x3 s3 r3
    have p3 : Post W (fun cls d _ H => WE wx σ cls d H) [] (fun i => if i = m.length then x else ρ i) (m.length + 1) (upd (upd H dx (.own x)) x (.ins (W.cad cn) dx [])) (mkG m.length v m1) Q := p2
    cases r3 with
    | none =>
      refine ⟨rfl, ?_⟩
      have h := Rep.ext x3 r0
      exact p3 ρ3 H3 _ x3 s3 h
    | _ => exact p3.elim
  | exc _ _ _ => rw [e] at p2; exact p2
  | err => rw [e] at p2; exact p2
theorem se_make (hW : W.K = X.K) (hC : Cls W.K (W.cad cn)) (M : Mk X.K (W.cad cn) f0) (F : FnOk X.prog X.w X.K X.mg X.base (L2.CX X.prog X.w) k f0 fd ps (spC W Cc inn)) (hr : Room (k + 1) X.A) (hg : Gl X cn) (hm : X.mg cn = some (.ref (W.cad cn))) (hb : Binds X.K fd ps [])
    (tk : Takes X wx) (hdb : (cn == ("__debug__" : PySem.Str)) = false) (he : starEach (e :: es) X.env = (false, eval e X.env) :: starEach es X.env) (hpl : (backTo pos (starEach es X.env)).any (·.1) = false) (ha : SA X W wx (e :: es) fr) :
    SE X W wx (.Call (.Name cn p) (e :: es) [] pos) (fun l m => (fr l m).bind fun vs m1 => gc m1 ((Cc inn (.ref m1.length :: vs) (m1 ++ [.inst cn []])).bind (mkG m1.length))) := by
  obtain ⟨ta, pa, qa⟩ := ha.ex
  refine ⟨fun σ H Q => ta σ H fun us H1 => ∀ x dx, H1 x = none → H1 dx = none → dx ≠ x → spC W Cc inn (.ref x :: us) (upd (upd H1 dx (.own x)) x (.ins (W.cad cn) dx [])) (fun v H2 => v = .non ∧ Q (.ref x) H2) (WE wx σ), ⟨fun pins s σ H Q I h => ?_⟩, fun σ H ρ l m Q ss s po => ?_⟩
  · refine wpAny_Call_Name_kw (ld_glob I hg hm ?_ hdb)
    refine PySem.W.callWith_K (h₀ := X.base) I.ok.mod.kin M.kp (thn (pa.run pos pins s σ H _ I h) fun us s1 ⟨vs, H1, I1, r, q⟩ => ⟨I1.kIn, ?_⟩) he hpl
    exact run_makeS M F hr hb (passAt tk σ) I1 r q
  · refine qa σ H ρ l m _ ss s ((PostL.bind ss po).mono fun us H1 ⟨xs, m1, ρ1, A, p1⟩ => ?_)
    exact make_post hC A.sim A.rep p1
theorem se_make0 (hW : W.K = X.K) (hC : Cls W.K (W.cad cn)) (M : Mk X.K (W.cad cn) f0) (F : FnOk X.prog X.w X.K X.mg X.base (L2.CX X.prog X.w) k f0 fd ps (spC W Cc inn)) (hr : Room (k + 1) X.A) (hg : Gl X cn) (hm : X.mg cn = some (.ref (W.cad cn))) (hb : Binds X.K fd ps [])
    (tk : Takes X wx) (hdb : (cn == ("__debug__" : PySem.Str)) = false) :
    SE X W wx (.Call (.Name cn p) [] [] pos) (fun l m => (Res.ok ([] : List Val) m).bind fun vs m1 => gc m1 ((Cc inn (.ref m1.length :: vs) (m1 ++ [.inst cn []])).bind (mkG m1.length))) := by
  refine ⟨fun σ H Q => ∀ x dx, H x = none → H dx = none → dx ≠ x → spC W Cc inn (.ref x :: []) (upd (upd H dx (.own x)) x (.ins (W.cad cn) dx [])) (fun v H2 => v = .non ∧ Q (.ref x) H2) (WE wx σ), ⟨fun pins s σ H Q I h => ?_⟩, fun σ H ρ l m Q ss s po => ?_⟩
  · refine wpAny_Call_Name_kw (ld_glob I hg hm ?_ hdb)
    exact PySem.W.callWith_K0 I.kIn M.kp (run_makeS (us := []) M F hr hb (passAt tk σ) I .nil h)
  · exact make_post hC s .nil po

/-! a keyword, a keyword's default -/
theorem run_makeKS {pins : List (Addr × Obj)} {σ : L2.St} {H : Hp} {s : Shared} {Q : VK} {us ws : List Value} {vs zs : List V} {n : Nat} {ks : List PySem.Str} {CX : CXT} {sp : Sp} {E : L2.St → XK} (M : Mk X.K C0 f0) (F : FnOk X.prog X.w X.K X.mg X.base CX k f0 fd ps sp) (hr : Room (k + 1) X.A)
    (hb : KBn X.K fd ps (n + 1) ks (fun us ws => us ++ ws) (fun vs zs => vs ++ zs)) (hx : PassesAt CX X σ (E σ)) (I : Inv X pins σ H s) (r : Vals vs us) (rz : Vals zs ws) (l1 : vs.length = n) (l2 : zs.length = ks.length)
    (h : ∀ x dx, H x = none → H dx = none → dx ≠ x → sp (.ref x :: (vs ++ zs)) (upd (upd H dx (.own x)) x (.ins C0 dx [])) (fun v H2 => v = .non ∧ Q (.ref x) H2) (E σ)) :
    wpAny (model X.prog X.w) X.A (call (.ref C0) us (ks.zip ws)) (EP X pins σ Q) X.xe s := by
  have hq := h (s.heap.objs.size + 1) s.heap.objs.size (I.hok.fresh (Nat.le_succ _)) (I.hok.fresh (Nat.le_refl _)) (Nat.ne_of_lt (Nat.lt_succ_self _))
  have I2 := Inv.made (C := C0) I
  have r1 : Vals (V.ref (s.heap.objs.size + 1) :: vs) (Value.ref (s.heap.objs.size + 1) :: us) := .cons rfl r
  have r2 := hb.rel r1 rz
  have n1 : (Value.ref (s.heap.objs.size + 1) :: us).length = n + 1 := by
    rw [List.length_cons, ← r.length, l1]
  refine wpAny_call (make_map (f := f0) I.kIn M.makes M.init (beq_iff_eq.mp M.fn) (codeAny_mono (F.run _ X.stack _ _ ⟨Value.ref (s.heap.objs.size + 1) :: us, ks.zip ws⟩ (Value.ref (s.heap.objs.size + 1) :: us ++ ws) _ _ (E σ) (hr.make C0 us (ks.zip ws))
    (I2.env0.make C0 us (ks.zip ws)) (hb.to _ (Value.ref (s.heap.objs.size + 1) :: us) ws I2.kIn n1 (rz.length.symm.trans l2)) r2 hq) fun r s' hq' => ?_))
  cases r with
  | error e => exact hx pins _ _ e s' I2 hq'
  | ok fl =>
    cases fl with
    | ret u =>
      obtain ⟨v, H', I3, rv, ev, q3⟩ := I2.after hq'
      subst ev
      exact ⟨rv, ⟨V.ref (s.heap.objs.size + 1), H', I3, rfl, q3⟩⟩
    | next => exact False.elim hq'
    | brk => exact False.elim hq'
    | cont => exact False.elim hq'
theorem run_makeDS {pins : List (Addr × Obj)} {σ : L2.St} {H : Hp} {s : Shared} {Q : VK} {us ds : List Value} {vs dvs : List V} {CX : CXT} {sp : Sp} {E : L2.St → XK} (M : Mk X.K C0 f0) (F : FnOk X.prog X.w X.K X.mg X.base CX k f0 fd ps sp) (hr : Room (k + 1) X.A) (hb : Binds X.K fd ps ds) (hd : Vals dvs ds)
    (hx : PassesAt CX X σ (E σ)) (I : Inv X pins σ H s) (r : Vals vs us)
    (h : ∀ x dx, H x = none → H dx = none → dx ≠ x → sp (.ref x :: (vs ++ dvs)) (upd (upd H dx (.own x)) x (.ins C0 dx [])) (fun v H2 => v = .non ∧ Q (.ref x) H2) (E σ)) :
    wpAny (model X.prog X.w) X.A (call (.ref C0) us) (EP X pins σ Q) X.xe s := by
  have hq := h (s.heap.objs.size + 1) s.heap.objs.size (I.hok.fresh (Nat.le_succ _)) (I.hok.fresh (Nat.le_refl _)) (Nat.ne_of_lt (Nat.lt_succ_self _))
  have I2 := Inv.made (C := C0) I
  have r2 : Vals (V.ref (s.heap.objs.size + 1) :: (vs ++ dvs)) (Value.ref (s.heap.objs.size + 1) :: us ++ ds) := .cons rfl (r.append hd)
  have hl : (Value.ref (s.heap.objs.size + 1) :: us ++ ds).length = ps.length := by
    have e := r2.length
    rw [F.len _ _ _ _ hq] at e
    exact e.symm
  have hb' := hb _ (Value.ref (s.heap.objs.size + 1) :: us) I2.kIn hl
  refine wpAny_call (make_map (f := f0) I.kIn M.makes M.init (beq_iff_eq.mp M.fn) (codeAny_mono (F.run _ X.stack _ _ ⟨Value.ref (s.heap.objs.size + 1) :: us, []⟩ (Value.ref (s.heap.objs.size + 1) :: us ++ ds) _ _ (E σ) (hr.make C0 us [])
    (I2.env0.make C0 us []) hb' r2 hq) fun r s' hq' => ?_))
  cases r with
  | error e => exact hx pins _ _ e s' I2 hq'
  | ok fl =>
    cases fl with
    | ret u =>
      obtain ⟨v, H', I3, rv, ev, q3⟩ := I2.after hq'
      subst ev
      exact ⟨rv, ⟨V.ref (s.heap.objs.size + 1), H', I3, rfl, q3⟩⟩
    | next => exact False.elim hq'
    | brk => exact False.elim hq'
    | cont => exact False.elim hq'
theorem PostL.bindE {ρ : Nat → Addr} {n : Nat} {H : Hp} {σ : L2.St} {l : Py.Loc} {r : Res (List Val)} {f : List Val → Mem → Res Val} {Q : VK} (ss : SimS W.K ρ n H l σ) (p : Post W wx σ ρ n H (r.bind f) Q) :
    PostL W wx σ ρ n H r fun u H1 => ∃ v m1 ρ1, r = .ok v m1 ∧ AftL W σ ρ n H l v m1 ρ1 u H1 ∧ Post W wx σ ρ1 m1.length H1 (f v m1) Q := by
  cases r with
  | ok v m => exact fun ρ' H' u a b c => ⟨v, m, ρ', rfl, ⟨a, ss.ext a, b, c⟩, Post.ext p a⟩
  | exc c fs m => exact p
  | err => exact p
theorem se_makeK {n : Nat} {kn : PySem.Str} {z : Expr} {fz : Py.Loc → Mem → Res Val} {kpos : Pos} (hW : W.K = X.K) (hC : Cls W.K (W.cad cn)) (M : Mk X.K (W.cad cn) f0) (F : FnOk X.prog X.w X.K X.mg X.base (L2.CX X.prog X.w) k f0 fd ps (spC W Cc inn)) (hr : Room (k + 1) X.A) (hg : Gl X cn) (hm : X.mg cn = some (.ref (W.cad cn)))
    (hb : KBn X.K fd ps (n + 1) [kn] (fun us ws => us ++ ws) (fun vs zs => vs ++ zs)) (tk : Takes X wx) (hdb : (cn == ("__debug__" : PySem.Str)) = false) (he : starEach (e :: es) X.env = (false, eval e X.env) :: starEach es X.env)
    (hpl : ((backTo pos (starEach (e :: es) X.env)).any (·.1) || (backToKw pos (keywordEach [⟨some kn, z, kpos⟩] X.env)).any (·.1.isNone)) = false) (hn : ∀ l m vs m1, fr l m = .ok vs m1 → vs.length = n) (ha : SA X W wx (e :: es) fr) (hz : SE X W wx z fz) :
    SE X W wx (.Call (.Name cn p) (e :: es) [⟨some kn, z, kpos⟩] pos) (fun l m => (fr l m).bind fun vs m1 => (fz l m1).bind fun w m2 => gc m2 ((Cc inn (.ref m2.length :: (vs ++ [w])) (m2 ++ [.inst cn []])).bind (mkG m2.length))) := by
  obtain ⟨ta, pa, qa⟩ := ha.ex
  obtain ⟨tz, pz, qz⟩ := hz.ex
  refine ⟨fun σ H Q => ta σ H fun us H1 => tCons tz tNil σ H1 fun zs H2 => us.length = n ∧ zs.length = 1 ∧ ∀ x dx, H2 x = none → H2 dx = none → dx ≠ x → spC W Cc inn (.ref x :: (us ++ zs)) (upd (upd H2 dx (.own x)) x (.ins (W.cad cn) dx [])) (fun v H2 => v = .non ∧ Q (.ref x) H2) (WE wx σ), ⟨fun pins s σ H Q I h => ?_⟩, fun σ H ρ l m Q ss s po => ?_⟩
  · refine wpAny_Call_Name_kw (ld_glob I hg hm ?_ hdb)
    refine PySem.W.callWith_KW (h₀ := X.base) I.ok.mod.kin M.kp (by rfl) (thn (pa.run pos pins s σ H _ I h) fun us s1 ⟨vs, H1, I1, r, q⟩ => ?_) hpl he
    refine thn ((pk_cons pz pk_nil).run pos pins s1 σ H1 _ I1 q) fun ws s2 ⟨zs, H2, I2, rz, l1, l2, q2⟩ => ⟨I2.kIn, ?_⟩
    exact run_makeKS (ks := [kn]) M F hr hb (passAt tk σ) I2 r rz l1 l2 q2
  · refine qa σ H ρ l m _ ss s ((PostL.bindE ss po).mono fun us H1 ⟨xs, m1, ρ1, ee, A, p1⟩ => ?_)
    refine qz σ H1 ρ1 l m1 _ A.ss A.sim ((Post.bind A.ss p1).mono fun u H2 ⟨y, m2, ρ2, B, p2⟩ => ?_)
    exact ⟨by rw [← A.rep.length]; exact hn l m xs m1 ee, rfl, make_post hC B.sim ((A.rep.ext B.ext).append (.cons B.rep .nil)) p2⟩
theorem se_makeD {ds : List Value} {dv : V} {w : Val} (hW : W.K = X.K) (hC : Cls W.K (W.cad cn)) (M : Mk X.K (W.cad cn) f0) (F : FnOk X.prog X.w X.K X.mg X.base (L2.CX X.prog X.w) k f0 fd ps (spC W Cc inn)) (hr : Room (k + 1) X.A) (hg : Gl X cn) (hm : X.mg cn = some (.ref (W.cad cn)))
    (hb : Binds X.K fd ps ds) (hd : Vals [dv] ds) (hw : ∀ ρ n H, Rep W.K ρ n H w dv)
    (tk : Takes X wx) (hdb : (cn == ("__debug__" : PySem.Str)) = false) (he : starEach (e :: es) X.env = (false, eval e X.env) :: starEach es X.env) (hpl : (backTo pos (starEach es X.env)).any (·.1) = false) (ha : SA X W wx (e :: es) fr) :
    SE X W wx (.Call (.Name cn p) (e :: es) [] pos) (fun l m => (fr l m).bind fun vs m1 => gc m1 ((Cc inn (.ref m1.length :: (vs ++ [w])) (m1 ++ [.inst cn []])).bind (mkG m1.length))) := by
  obtain ⟨ta, pa, qa⟩ := ha.ex
  refine ⟨fun σ H Q => ta σ H fun us H1 => ∀ x dx, H1 x = none → H1 dx = none → dx ≠ x → spC W Cc inn (.ref x :: (us ++ [dv])) (upd (upd H1 dx (.own x)) x (.ins (W.cad cn) dx [])) (fun v H2 => v = .non ∧ Q (.ref x) H2) (WE wx σ), ⟨fun pins s σ H Q I h => ?_⟩, fun σ H ρ l m Q ss s po => ?_⟩
  · refine wpAny_Call_Name_kw (ld_glob I hg hm ?_ hdb)
    refine PySem.W.callWith_K (h₀ := X.base) I.ok.mod.kin M.kp (thn (pa.run pos pins s σ H _ I h) fun us s1 ⟨vs, H1, I1, r, q⟩ => ⟨I1.kIn, ?_⟩) he hpl
    exact run_makeDS M F hr hb hd (passAt tk σ) I1 r q
  · refine qa σ H ρ l m _ ss s ((PostL.bind ss po).mono fun us H1 ⟨xs, m1, ρ1, A, p1⟩ => ?_)
    exact make_post hC A.sim (A.rep.append (.cons (hw _ _ _) .nil)) p1

/-! ### methods of lists -/
def recvR (b : BM) (x : Val) (g : Mem → Res Val) (m1 : Mem) : Res Val := if recvOk b m1 x = true then g m1 else .err
theorem tyV_list (hW : W.K = X.K) {b : BM} {ρ : Nat → Addr} {m : Mem} {H : Hp} {x : Val} {u : V} (s : Sim W ρ m H) (r : Rep W.K ρ m.length H x u) (e : recvOk b m x = true) : tyV X.K "list" u H := by
  cases r with
  | @ref k hk =>
    unfold recvOk at e
    simp only at e
    obtain ⟨xs, ex⟩ := Option.isSome_iff_exists.mp e
    obtain ⟨_, _, us, q, _⟩ := s.list ex
    exact .inl ⟨rfl, us, SqL.of q⟩
  | _ => cases e
theorem se_bm {id : String} {mn : PySem.Str} {apos : Pos} {b : BM} (hW : W.K = X.K) (pa : PlainAttrs "list") (slot : Slot "list" mn id) (hty : typeOf (.builtin id) = pure (.type "method_descriptor")) (hm : MtR X id (rBm W b))
    (hbase : attributeBase o mn X.env (eval o X.env) = eval o X.env) (hline : (apos.endLine == pos.line) = true) (ho : SE X W wx o fo) (ha : SA X W wx (e :: es) fr)
    (hfew : ((backTo pos (starEach (e :: es) X.env)).all (fun x => !x.1) && (backToKw pos (keywordEach [] X.env)).all (fun x => x.1.isSome)
      && decide ((e :: es).length + ([] : List Keyword).length + (if ([] : List Keyword).isEmpty then 0 else 1) < 30)) = true)
    (hs : starEach (e :: es) X.env = (false, eval e X.env) :: starEach es X.env) (hplain : (backTo pos (starEach es X.env)).any (·.1) = false) :
    SE X W wx (.Call (.Attribute o mn apos) (e :: es) [] pos) (fun l m => (fo l m).bind fun x m1 => recvR b x (fun m => (fr l m).bind fun vs m2 => bmop b x vs m2) m1) := by
  obtain ⟨to, po, qo⟩ := ho.ex
  obtain ⟨ta, pr, qa⟩ := ha.ex
  refine ⟨_, pe_bm pa slot hty hm po pr hbase hfew hline hs hplain, fun σ H ρ l m Q ss s pp => ?_⟩
  refine qo σ H ρ l m _ ss s ((Post.bind ss pp).mono fun u H1 ⟨x, m1, ρ1, A, p1⟩ => ?_)
  unfold recvR at p1
  split at p1
  · rename_i hr
    refine ⟨tyV_list hW A.sim A.rep hr, ?_⟩
    refine qa σ H1 ρ1 l m1 _ A.ss A.sim ((PostL.bind A.ss p1).mono fun us H2 ⟨xs, m2, ρ2, B, p2⟩ => ?_)
    exact ⟨ρ2, m2, x, xs, B.sim, A.rep.ext B.ext, B.rep, p2.nx fun _ _ _ => bmop_nx⟩
  · exact p1.elim
theorem se_bm0 {id : String} {mn : PySem.Str} {apos : Pos} {b : BM} (hW : W.K = X.K) (pa : PlainAttrs "list") (slot : Slot "list" mn id) (hty : typeOf (.builtin id) = pure (.type "method_descriptor")) (hm : MtR X id (rBm W b))
    (hbase : attributeBase o mn X.env (eval o X.env) = eval o X.env) (hline : (apos.endLine == pos.line) = true) (ho : SE X W wx o fo) :
    SE X W wx (.Call (.Attribute o mn apos) [] [] pos) (fun l m => (fo l m).bind fun x m1 => recvR b x (fun m => (Res.ok ([] : List Val) m).bind fun vs m2 => bmop b x vs m2) m1) := by
  obtain ⟨to, po, qo⟩ := ho.ex
  refine ⟨_, pe_bm0 pa slot hty hm po hbase hline, fun σ H ρ l m Q ss s pp => ?_⟩
  refine qo σ H ρ l m _ ss s ((Post.bind ss pp).mono fun u H1 ⟨x, m1, ρ1, A, p1⟩ => ?_)
  unfold recvR at p1
  split at p1
  · rename_i hr
    exact ⟨tyV_list hW A.sim A.rep hr, ρ1, m1, x, [], A.sim, A.rep, .nil, p1.nx fun _ _ _ => bmop_nx⟩
  · exact p1.elim
theorem se_dead : SE X W wx e (fun _ _ => .err) := ⟨fun _ _ _ => False, ⟨fun _ _ _ _ _ _ h => h.elim⟩, fun σ H ρ l m Q ss s p => p.elim⟩
end
end Py

namespace Py
open PySem PySem.Spec PyProof.Rows L2

/-! ### what a text must look like -/
def isStar : Expr → Bool
  | .Starred _ _ => true
  | _ => false
def isSlice : Expr → Bool
  | .Slice _ _ _ _ => true
  | _ => false
def isSetD : Expr → Bool
  | .Set _ _ _ => true
  | _ => false
def isCompr : Expr → Bool
  | .ListComp _ _ _ _ => true
  | .SetComp _ _ _ _ => true
  | .DictComp _ _ _ _ _ => true
  | _ => false
def noSuper : Expr → Bool
  | .Call (.Name id _) _ _ _ => id != "super"
  | _ => true
/-- a form whose truth is asked of its value -/
def isPl : Expr → Bool
  | .UnaryOp .Not _ _ => false
  | .BoolOp _ _ _ => false
  | .IfExp _ _ _ _ => false
  | .Compare _ _ _ _ => false
  | _ => true
section
variable {env : Env} {a e o : Expr} {es : List Expr}
theorem star_cons (h : isStar a = false) : starEach (a :: es) env = (false, eval a env) :: starEach es env := by
  cases a <;> first | rfl | cases h
theorem back_plain {pos : Pos} : ∀ {es : List Expr}, es.all (fun x => !isStar x) = true → (backTo pos (starEach es env)).any (·.1) = false
  | [], _ => rfl
  | a :: es, h => by
    rw [List.all_cons, Bool.and_eq_true] at h
    have h1 : isStar a = false := by simpa using h.1
    rw [star_cons h1]
    show (false || (backTo pos (starEach es env)).any (·.1)) = false
    rw [back_plain h.2]; rfl
theorem back_all {pos : Pos} : ∀ {es : List Expr}, es.all (fun x => !isStar x) = true → (backTo pos (starEach es env)).all (fun x => !x.1) = true
  | [], _ => rfl
  | a :: es, h => by
    rw [List.all_cons, Bool.and_eq_true] at h
    have h1 : isStar a = false := by simpa using h.1
    rw [star_cons h1]
    show (true && (backTo pos (starEach es env)).all (fun x => !x.1)) = true
    rw [back_all h.2]; rfl
theorem base_plain {at_ : PySem.Str} {w : Sem Value} (h : noSuper o = true) : attributeBase o at_ env w = w := by
  cases o with
  | Call f as ks p =>
    cases f with
    | Name id q =>
      have h' : (id != "super") = true := h
      cases as with
      | cons _ _ => rfl
      | nil =>
        cases ks with
        | cons _ _ => rfl
        | nil =>
          unfold attributeBase
          simp only [h', Bool.true_or, if_true]
    | _ => rfl
  | _ => rfl
theorem fold_plain (h : isSetD e = false) : ∀ x, foldedSetIterable e env x = pure x := by
  intro x
  cases e <;> first | rfl | cases h
theorem ix_plain (h : isSlice e = false) : PlainIx e := by
  intro o i
  cases e <;> first | rfl | cases h
theorem nosl_plain (h : isSlice e = false) : NoSl e := by
  intro o i
  cases e <;> first | rfl | cases h
theorem swaps_plain {t : Option Expr} {n : Nat} (h : isCompr e = false) : swapsWith e t n env = pure false := by
  cases e <;> first | rfl | cases h
theorem swaps_cell {x : PySem.Str} {py : Pos} {n : Nat} (h : env.scope.names.lookup x = some .cell) : swapsWith e (some (.Name x py)) n env = pure false := by
  have hk : (env.kindOf x == some NameKind.local) = false := by
    unfold Env.kindOf; rw [h]; rfl
  cases e <;> first | rfl | (unfold swapsWith; simp only [hk, Bool.and_false, Bool.false_and]; try rfl)
theorem true_plain (h : isPl e = true) : ∀ whole, isTrue e env whole = (do let v ← whole; standAt e.pos; holding [v] (truthy v)) := by
  intro w
  cases e with
  | UnaryOp op _ _ => cases op <;> first | rfl | cases h
  | _ => first | rfl | cases h
end

/-! ### names -/
def nmOk (x : PySem.Str) : Bool := (x == ("__debug__" : PySem.Str)) == false && (x == ("__classdict__" : PySem.Str)) == false
def isVis (sc : Scope) (x : PySem.Str) : Bool := match sc.names.lookup x with
  | some .local => true
  | some .cell => true
  | some .free => true
  | _ => false
def isLoc (sc : Scope) (fb : PySem.Str → Bool) (x : PySem.Str) : Bool := match sc.names.lookup x with
  | some .local => true
  | some .cell => fb x
  | _ => false
def isGl (sc : Scope) (x : PySem.Str) : Bool := match sc.names.lookup x with
  | some .globalImplicit => true
  | _ => false
def bltName : Blt → String
  | .len => "len" | .min => "min" | .max => "max" | .abs => "abs" | .int => "int" | .sum => "sum" | .all => "all" | .list => "list" | .tuple => "tuple"
def bmName : BM → String
  | .append => "append" | .pop => "pop" | .reverse => "reverse" | .clear => "clear" | .extend => "extend"
def callable (P : Prog) (f : PySem.Str) : Bool := match P.ent f with
  | some (.fn _) => true
  | some (.cls _) => true
  | _ => false
def kwOk (P : Prog) (f k : PySem.Str) (n : Nat) : Bool := match P.ent f with
  | some (.clsK i) => (match P.kwn i with
    | some (x, _) => (match P.ent i with
      | some (.kw fd) => decide (x = k) && decide (n + 2 = fd.np)
      | _ => false)
    | none => false)
  | _ => false
def dfOk (P : Prog) (f : PySem.Str) : Bool := match P.ent f with
  | some (.clsK i) => (P.kwn i).isSome
  | _ => false
def litOk (c : Const) (v : Val) : Bool := match c, v with
  | .none, .none => true
  | .bool b, .bool d => b == d
  | .int i, .int j => decide (i = j)
  | .str s, .str t => decide (s.cps.toList = t) && okS t
  | _, _ => false
def argsOk (es : List Expr) : Bool := es.all (fun x => !isStar x) && decide (es.length < 29)

/-! ### targets -/
mutual
def chkT (N : List PySem.Str) (sc : Scope) (fb : PySem.Str → Bool) : Expr → Tg → Bool
  | e, .name i => match e with
    | .Name x _ => decide (N[i]? = some x) && isLoc sc fb x
    | _ => false
  | e, .tup ts => match e with
    | .Tuple es _ _ => chkTs N sc fb es ts
    | _ => false
def chkTs (N : List PySem.Str) (sc : Scope) (fb : PySem.Str → Bool) : List Expr → List Tg → Bool
  | es, [] => es.isEmpty
  | es, t :: ts => match es with
    | e :: es' => !isStar e && chkT N sc fb e t && chkTs N sc fb es' ts
    | [] => false
end
def ownOf (N : List PySem.Str) (t : Tg) : List (PySem.Str × Nat) := t.slots.map fun i => (N.getD i "", i)
def cellB (scope : Scope) (x : PySem.Str) : Bool := scope.names.lookup x == some .cell

/-! ### expressions -/
mutual
def chkE (P : Prog) (fre N : List PySem.Str) (sc : Scope) (fb : PySem.Str → Bool) : Expr → E → Bool
  | e, .lit v => match e with
    | .Constant c _ _ => litOk c v
    | _ => false
  | e, .var i => match e with
    | .Name x _ => decide (N[i]? = some x) && isVis sc x && nmOk x
    | _ => false
  | e, .glob x => match e with
    | .Name y _ => decide (y = x) && isGl sc x && nmOk x
    | _ => false
  | e, .bin o a b => match e with
    | .BinOp l p r _ => decide (p = opOf o) && chkE P fre N sc fb l a && chkE P fre N sc fb r b
    | _ => false
  | e, .neg a => match e with
    | .UnaryOp .USub x _ => chkE P fre N sc fb x a
    | _ => false
  | e, .cmp o a b => match e with
    | .Compare l [p] [r] _ => decide (p = copOf o) && !behindInMarks p r && chkE P fre N sc fb l a && chkE P fre N sc fb r b
    | _ => false
  | e, .chain o1 o2 a b c => match e with
    | .Compare l [p, q] [r, s] _ => decide (p = copOf o1) && decide (q = copOf o2) && !lastMarks [p, q] [r, s] && chkE P fre N sc fb l a && chkE P fre N sc fb r b && chkE P fre N sc fb s c
    | _ => false
  | e, .band a b => match e with
    | .BoolOp .And (x :: y :: r) pos => chkE P fre N sc fb x a && (match r with
      | [] => chkE P fre N sc fb y b
      | z :: r' => chkE P fre N sc fb (.BoolOp .And (y :: z :: r') pos) b)
    | _ => false
  | e, .bor a b => match e with
    | .BoolOp .Or (x :: y :: r) pos => chkE P fre N sc fb x a && (match r with
      | [] => chkE P fre N sc fb y b
      | z :: r' => chkE P fre N sc fb (.BoolOp .Or (y :: z :: r') pos) b)
    | _ => false
  | e, .bnot a => match e with
    | .UnaryOp .Not x _ => chkE P fre N sc fb x a
    | _ => false
  | e, .ite c a b => match e with
    | .IfExp x y z _ => chkE P fre N sc fb x c && chkE P fre N sc fb y a && chkE P fre N sc fb z b
    | _ => false
  | e, .tup es => match e with
    | .Tuple xs _ _ => chkL P fre N sc fb xs es
    | _ => false
  | e, .lst es => match e with
    | .List xs _ => chkL P fre N sc fb xs es
    | _ => false
  | e, .dct tk ks vs => match e with
    | .Dict [] [] _ => tk && ks.isEmpty && vs.isEmpty
    | _ => false
  | e, .din neg a d => match e with
    | .Compare l [op] [r] _ => decide (op = if neg then .NotIn else .In) && !behindInMarks op r && chkE P fre N sc fb l a && chkE P fre N sc fb r d
    | _ => false
  | e, .dget d a => match e with
    | .Subscript x y _ => !isSlice y && chkE P fre N sc fb x d && chkE P fre N sc fb y a
    | _ => false
  | e, .dgetD d a z => match e with
    | .Call (.Attribute x g apos) [y, w] [] pos => decide (g = "get") && noSuper x && (apos.endLine == pos.line) && !isStar y && !isStar w && chkE P fre N sc fb x d && chkE P fre N sc fb y a && chkE P fre N sc fb w z
    | _ => false
  | e, .dpop d a => match e with
    | .Call (.Attribute x g apos) [y] [] pos => decide (g = "pop") && noSuper x && (apos.endLine == pos.line) && !isStar y && chkE P fre N sc fb x d && chkE P fre N sc fb y a
    | _ => false
  | e, .keysD a => match e with
    | .Call (.Name g _) [x] [] _ => decide (g = "list") && isGl sc "list" && fre.contains ("list" : PySem.Str) && !isStar x && chkE P fre N sc fb x a
    | _ => false
  | e, .sortP a => match e with
    | .Call (.Name g _) [x] [] _ => decide (g = "sorted") && isGl sc "sorted" && fre.contains ("sorted" : PySem.Str) && !isStar x && chkE P fre N sc fb x a
    | _ => false
  | e, .call f es => match e with
    | .Call (.Name g _) xs [] _ => decide (g = f) && isGl sc f && nmOk f && callable P f && argsOk xs && chkL P fre N sc fb xs es
    | _ => false
  | e, .callK f es k z => match e with
    | .Call (.Name g _) (x :: xs) [⟨some k', y, _⟩] _ => decide (g = f) && isGl sc f && nmOk f && decide (k' = k) && kwOk P f k (x :: xs).length && !isStar x && xs.all (fun x => !isStar x) && chkL P fre N sc fb (x :: xs) es && chkE P fre N sc fb y z
    | _ => false
  | e, .callD f es => match e with
    | .Call (.Name g _) (x :: xs) [] _ => decide (g = f) && isGl sc f && nmOk f && dfOk P f && !isStar x && xs.all (fun x => !isStar x) && chkL P fre N sc fb (x :: xs) es
    | _ => false
  | e, .blt f es => match e with
    | .Call (.Name g _) xs [] _ => decide (g = bltName f) && isGl sc (bltName f) && fre.contains (bltName f : PySem.Str) && !xs.isEmpty && argsOk xs && chkL P fre N sc fb xs es
    | _ => false
  | e, .tin neg t a => match e with
    | .Compare l [op] [.Name g _] _ => decide (op = if neg then .NotIn else .In) && decide (g = t) && isGl sc t && nmOk t && (P.tab t).isSome && chkE P fre N sc fb l a
    | _ => false
  | e, .tix t a => match e with
    | .Subscript (.Name g _) y _ => decide (g = t) && isGl sc t && nmOk t && (P.tab t).isSome && !isSlice y && chkE P fre N sc fb y a
    | _ => false
  | e, .lenO a => match e with
    | .Call (.Name g _) [x] [] _ => decide (g = "len") && isGl sc "len" && fre.contains ("len" : PySem.Str) && !isStar x && chkE P fre N sc fb x a
    | _ => false
  | e, .listO a => match e with
    | .Call (.Name g _) [x] [] _ => decide (g = "list") && isGl sc "list" && fre.contains ("list" : PySem.Str) && !isStar x && chkE P fre N sc fb x a
    | _ => false
  | e, .join o a => match e with
    | .Call (.Attribute x g apos) [y] [] pos => decide (g = "join") && noSuper x && (apos.endLine == pos.line) && !isStar y && chkE P fre N sc fb x o && chkE P fre N sc fb y a
    | _ => false
  | e, .sm1 f o a => match e with
    | .Call (.Attribute x g apos) [y] [] pos => decide (g = smN f) && noSuper x && (apos.endLine == pos.line) && !isStar y && chkE P fre N sc fb x o && chkE P fre N sc fb y a
    | _ => false
  | e, .bm o f es => match e with
    | .Call (.Attribute x g apos) xs [] pos => decide (g = bmName f) && noSuper x && (apos.endLine == pos.line) && argsOk xs && chkE P fre N sc fb x o && chkL P fre N sc fb xs es
    | _ => false
  | e, .isi a ty => match e with
    | .Call (.Name g _) [x, .Name t _] [] _ => decide (g = "isinstance") && decide (t = tyStr ty) && decide (ty ≠ .none) && isGl sc "isinstance" && isGl sc (tyStr ty) && fre.contains ("isinstance" : PySem.Str) && fre.contains (tyStr ty : PySem.Str) && !isStar x && chkE P fre N sc fb x a
    | _ => false
  | e, .meth o f es => match e with
    | .Call (.Attribute x g apos) xs [] pos => decide (g = f) && noSuper x && (apos.endLine == pos.line) && argsOk xs && chkE P fre N sc fb x o && chkL P fre N sc fb xs es
    | _ => false
  | e, .attr o f => match e with
    | .Attribute x g _ => decide (g = f) && noSuper x && chkE P fre N sc fb x o
    | _ => false
  | e, .idx a i => match e with
    | .Subscript x y _ => !isSlice y && chkE P fre N sc fb x a && chkE P fre N sc fb y i
    | _ => false
  | e, .sliceB a lo hi => match e with
    | .Subscript x (.Slice (some y) (some z) none _) _ => chkE P fre N sc fb x a && chkE P fre N sc fb y lo && chkE P fre N sc fb z hi
    | _ => false
  | e, .sliceL a lo => match e with
    | .Subscript x (.Slice (some y) none none _) _ => chkE P fre N sc fb x a && chkE P fre N sc fb y lo
    | _ => false
  | e, .sliceH a hi => match e with
    | .Subscript x (.Slice none (some z) none _) _ => chkE P fre N sc fb x a && chkE P fre N sc fb z hi
    | _ => false
  | e, .comp elt t it => match e with
    | .ListComp x [⟨tg, iter, [], ia⟩] scope _ => decide (ia = 0) && !isSetD iter && blkC N sc scope (ownOf N t) && chkI P fre N sc fb tg iter it && chkT N (relS scope sc) (cellB scope) tg t && chkE P fre N (relS scope sc) (cellB scope) x elt
    | _ => false
  | e, .compIf elt t it c => match e with
    | .ListComp x [⟨tg, iter, [y], ia⟩] scope _ => decide (ia = 0) && !isSetD iter && blkC N sc scope (ownOf N t) && chkI P fre N sc fb tg iter it && chkT N (relS scope sc) (cellB scope) tg t && chkE P fre N (relS scope sc) (cellB scope) y c && chkE P fre N (relS scope sc) (cellB scope) x elt
    | _ => false
def chkL (P : Prog) (fre N : List PySem.Str) (sc : Scope) (fb : PySem.Str → Bool) : List Expr → List E → Bool
  | xs, [] => xs.isEmpty
  | xs, e :: es => match xs with
    | x :: xs' => !isStar x && chkE P fre N sc fb x e && chkL P fre N sc fb xs' es
    | [] => false
def chkI (P : Prog) (fre N : List PySem.Str) (sc : Scope) (fb : PySem.Str → Bool) : Expr → Expr → Py.It → Bool
  | _, x, .seq e => chkE P fre N sc fb x e
  | _, x, .own e => chkE P fre N sc fb x e
  | _, x, .range1 a => match x with
    | .Call (.Name g _) [y] [] _ => decide (g = "range") && isGl sc "range" && fre.contains ("range" : PySem.Str) && !isStar y && chkE P fre N sc fb y a
    | _ => false
  | _, x, .range2 a b => match x with
    | .Call (.Name g _) [y, z] [] _ => decide (g = "range") && isGl sc "range" && fre.contains ("range" : PySem.Str) && !isStar y && !isStar z && chkE P fre N sc fb y a && chkE P fre N sc fb z b
    | _ => false
  | _, x, .vals d => match x with
    | .Call (.Attribute y g apos) [] [] pos => decide (g = "values") && noSuper y && (apos.endLine == pos.line) && chkE P fre N sc fb y d
    | _ => false
  | tg, x, .zip a b => match tg with
    | .Tuple _ _ _ => (match x with
      | .Call (.Name g _) [y, z] [] _ => decide (g = "zip") && isGl sc "zip" && fre.contains ("zip" : PySem.Str) && !isStar y && !isStar z && chkE P fre N sc fb y a && chkE P fre N sc fb z b
      | _ => false)
    | _ => false
end
end Py

namespace Py
open PySem PySem.Spec PyProof.Rows L2

/-! ### what is known of the world -/
/-- addresses and function objects by key -/
structure Tbl where
  ad : PySem.Str → Addr
  fd : PySem.Str → FuncData
  ps : PySem.Str → List PySem.Str
/-- how a def with a keyword-only parameter is bound -/
structure KwB (K : PySem.W.Frag) (fd : FuncData) (ps : List PySem.Str) (k : PySem.Str) (w : Val) : Prop where
  dfl : ∃ (dv : V) (ds : List Value), Vals [dv] ds ∧ Binds K fd ps ds ∧ ∀ ρ n H, Rep K ρ n H w dv
  kw : KBn K fd ps (ps.length - 1) [k] (fun us ws => us ++ ws) (fun vs zs => vs ++ zs)
structure Facts (P : Prog) (fre : List PySem.Str) (W : Wd) (mg : PySem.Str → Option Value) (T : Tbl) : Prop where
  fn : ∀ x f, P.ent x = some (.fn f) → mg x = some (.ref (T.ad x)) ∧ PySem.W.keepIn W.K (.ref (T.ad x)) = true ∧ Binds W.K (T.fd x) (T.ps x) []
  cls : ∀ c i, P.ent c = some (.cls i) → mg c = some (.ref (W.cad c)) ∧ Cls W.K (W.cad c) ∧ Mk W.K (W.cad c) (T.ad i) ∧ (∃ f, P.ent i = some (.mth f))
  mth : ∀ x f, P.ent x = some (.mth f) → Binds W.K (T.fd x) (T.ps x) []
  clsK : ∀ c i, P.ent c = some (.clsK i) → mg c = some (.ref (W.cad c)) ∧ Cls W.K (W.cad c) ∧ Mk W.K (W.cad c) (T.ad i) ∧ (∃ f, P.ent i = some (.kw f) ∧ f.np = (T.ps i).length)
  kw : ∀ x f, P.ent x = some (.kw f) → ∃ k w, P.kwn x = some (k, w) ∧ KwB W.K (T.fd x) (T.ps x) k w
  meth : ∀ c m q, P.meth c m = some q → Meth W.K (W.cad c) m (T.ad q) ∧ (∃ f, P.ent q = some (.mth f))
  prop : ∀ c f q, P.prop c f = some q → (∃ p, PropOf W.K (W.cad c) f p (T.ad q)) ∧ (∃ fn, P.ent q = some (.mth fn))
  noat : ∀ c f, (P.flds c).contains f = true → NoAttr W.K (W.cad c) f
  free : ∀ x, fre.contains x = true → mg x = none
  glob : ∀ x v, P.glob x = some v → ∃ u w, mg x = some w ∧ RelV u w ∧ ∀ ρ n H, Rep W.K ρ n H v u
def Lv (P : Prog) (W : Wd) (T : Tbl) (prog : Program) (w : World) (mg : PySem.Str → Option Value) (base : Heap) (d : Nat) : Prop :=
  ∀ x f, P.ent x = some (.fn f) ∨ P.ent x = some (.mth f) ∨ P.ent x = some (.kw f) → FnOk prog w W.K mg base (L2.CX prog w) (5 * d + 1) (T.ad x) (T.fd x) (T.ps x) (spC W (callN P d) x)
structure Good (P : Prog) (fre : List PySem.Str) (T : Tbl) (d : Nat) (X : Cx) (W : Wd) (wx : WX) (N : List PySem.Str) (sc : Scope) (fb : PySem.Str → Bool) : Prop where
  k : W.K = X.K
  calm : X.calm = true
  room : Room (5 * d + 5) X.A
  nm : X.N = N
  nd : X.N.Nodup
  sc : X.env.scope = sc
  tk : Takes X wx
  fn : ∀ x, fb x = true → X.fn x = true
  fac : Facts P fre W X.mg T
  lv : ∀ j, j ≤ d → Lv P W T X.prog X.w X.mg X.base j
  it : ∀ c f, P.iter c = some f → IterP X.prog X.w X.K X.mg X.base W c f
  tb : ∀ t rows, P.tab t = some rows → TabOk X.w X.K X.mg t rows

section
variable {P : Prog} {fre : List PySem.Str} {T : Tbl} {d : Nat} {X : Cx} {W : Wd} {wx : WX} {N : List PySem.Str} {sc : Scope} {fb : PySem.Str → Bool}
theorem Good.units (g : Good P fre T d X W wx N sc fb) : X.A.units + 65 < cLine := by have := g.room.un; omega
theorem Good.rm (g : Good P fre T d X W wx N sc fb) : Room (5 * d + 1) X.A := g.room.mono (by omega)
theorem Good.vis (g : Good P fre T d X W wx N sc fb) {x : PySem.Str} (h : isVis sc x = true) : Vis X.env.scope x := by
  rw [g.sc]
  unfold isVis at h
  unfold Vis
  split at h <;> simp_all
theorem Good.loc (g : Good P fre T d X W wx N sc fb) {x : PySem.Str} (h : isLoc sc fb x = true) : L2.Loc X.env.scope x ∧ (X.fn x = true ∨ X.env.scope.names.lookup x = some .local) := by
  rw [g.sc]
  unfold isLoc at h
  unfold L2.Loc
  split at h
  · rename_i e; exact ⟨.inl e, .inr e⟩
  · rename_i e; exact ⟨.inr e, .inl (g.fn _ h)⟩
  · cases h
theorem Good.gl (g : Good P fre T d X W wx N sc fb) {x : PySem.Str} (h : isGl sc x = true) : Gl X x := by
  unfold Gl
  unfold isGl at h
  show X.env.scope.names.lookup x = _
  rw [g.sc]
  split at h
  · assumption
  · cases h
theorem nm1 {x : PySem.Str} (h : nmOk x = true) : (x == ("__debug__" : PySem.Str)) = false ∧ (x == ("__classdict__" : PySem.Str)) = false := by
  unfold nmOk at h
  rw [Bool.and_eq_true] at h
  exact ⟨by simpa using h.1, by simpa using h.2⟩
theorem Good.blk (g : Good P fre T d X W wx N sc fb) (s : Shared) (H : Hp) (scope : Scope) (C : Addr) (cl : List (PySem.Str × Addr)) (fp : List Addr) :
    Good P fre T d (X.blk s H scope (compEnvC scope cl C X.env) fp) W (fun _ _ _ _ => False) N (relS scope sc) (cellB scope) where
  k := g.k
  calm := g.calm
  room := g.room
  nm := g.nm
  nd := g.nd
  sc := by rw [← g.sc]; rfl
  tk := takes0
  fn := fun _ h => h
  fac := g.fac
  lv := g.lv
  it := g.it
  tb := g.tb

theorem sb_dead {e : Expr} : SB X W wx e (fun _ _ => .err) := ⟨se_dead, ⟨fun _ _ _ => False, ⟨fun _ _ _ _ _ _ h => h.elim⟩, fun σ H ρ l m Q ss s p => p.elim⟩⟩
theorem SB.bool {op : BoolOp} {vs : List Expr} {pos : Pos} {f : Py.Loc → Mem → Res Val} (h : SB X W wx (.BoolOp op vs pos) f) : SW X W wx (.BoolOp op vs pos) f := by
  refine ⟨h.ve, ?_⟩
  obtain ⟨t, p, q⟩ := h.te.ex
  exact ⟨t, ⟨fun whole pins s σ H Q I hh => p.run pins s σ H Q I hh⟩, q⟩

theorem lit_ok {c : Const} {v : Val} {j : Nat} {pos : Pos} (h : litOk c v = true) : SE X W wx (.Constant c j pos) (fun _ m => .ok v m) := by
  unfold litOk at h
  split at h
  · exact se_of pe_non (fun σ H Q q => q) (fun ρ n H => .none)
  · rename_i b d
    have e : b = d := by simpa using h
    subst e
    exact se_of pe_bl (fun σ H Q q => q) (fun ρ n H => .bool b)
  · rename_i i k
    have e := of_decide_eq_true h
    subst e
    exact se_of pe_int (fun σ H Q q => q) (fun ρ n H => .int i)
  · rename_i s t
    rw [Bool.and_eq_true] at h
    have e := of_decide_eq_true h.1
    have e2 : s = sv t := by rw [← e]; exact (sv_of s).symm
    rw [e2]
    exact se_of pe_str (fun σ H Q q => q) (fun ρ n H => .str t h.2)
  · cases h

theorem blt_ok {f : Blt} {e : Expr} {es : List Expr} {fr : Py.Loc → Mem → Res (List Val)} {p pos : Pos} (hk : W.K = X.K) (hc : X.calm = true) (hg : Gl X (bltName f)) (hm : X.mg (bltName f) = none)
    (he : starEach (e :: es) X.env = (false, eval e X.env) :: starEach es X.env) (hpl : (backTo pos (starEach es X.env)).any (·.1) = false) (ha : SA X W wx (e :: es) fr) :
    SE X W wx (.Call (.Name (bltName f) p) (e :: es) [] pos) (fun l m => gc m ((fr l m).bind fun vs m1 => bltop f vs m1)) := by
  cases f with
  | len => exact se_blt (b_len hk) hg hm (by decide +kernel) (by decide +kernel) (by decide +kernel) he hpl ha
  | min => exact se_blt (b_min hc) hg hm (by decide +kernel) (by decide +kernel) (by decide +kernel) he hpl ha
  | max => exact se_blt (b_max hc) hg hm (by decide +kernel) (by decide +kernel) (by decide +kernel) he hpl ha
  | abs => exact se_blt b_abs hg hm (by decide +kernel) (by decide +kernel) (by decide +kernel) he hpl ha
  | int => exact se_bltT b_int hg hm (by decide +kernel) (by decide +kernel) (by decide +kernel) he hpl ha
  | sum => exact se_blt (b_sum hk hc) hg hm (by decide +kernel) (by decide +kernel) (by decide +kernel) he hpl ha
  | all => exact se_blt (b_all hk hc) hg hm (by decide +kernel) (by decide +kernel) (by decide +kernel) he hpl ha
  | list => exact se_bltT (b_list hk) hg hm (by decide +kernel) (by decide +kernel) (by decide +kernel) he hpl ha
  | tuple => exact se_bltT (b_tuple hk) hg hm (by decide +kernel) (by decide +kernel) (by decide +kernel) he hpl ha

theorem args1 {a : Expr} {es : List Expr} (h : argsOk (a :: es) = true) : isStar a = false ∧ es.all (fun x => !isStar x) = true ∧ (a :: es).length < 29 := by
  unfold argsOk at h
  rw [Bool.and_eq_true, List.all_cons, Bool.and_eq_true] at h
  exact ⟨by simpa using h.1.1, h.1.2, of_decide_eq_true h.2⟩
theorem args_all {es : List Expr} (h : argsOk es = true) : es.all (fun x => !isStar x) = true := by
  unfold argsOk at h
  rw [Bool.and_eq_true] at h
  exact h.1

theorem get_m2 {o a b : Expr} {apos pos : Pos} (hb : noSuper o = true) (hl : (apos.endLine == pos.line) = true) (h1 : isStar a = false) (h2 : isStar b = false) : M2 X o "get" apos a b pos where
  base := base_plain hb
  few := by rw [star_cons h1, star_cons h2]; rfl
  line := hl
  trees := by rw [star_cons h1, star_cons h2]; rfl
theorem pop_m1 {o a : Expr} {apos pos : Pos} (hb : noSuper o = true) (hl : (apos.endLine == pos.line) = true) (h1 : isStar a = false) : M1 X o "pop" apos a pos where
  base := base_plain hb
  few := by rw [star_cons h1]; rfl
  line := hl
  trees := by rw [star_cons h1]; rfl
theorem bm_ok {f : BM} {o : Expr} {es : List Expr} {fo : Py.Loc → Mem → Res Val} {fr : Py.Loc → Mem → Res (List Val)} {apos pos : Pos} (hk : W.K = X.K) (hb : noSuper o = true) (hl : (apos.endLine == pos.line) = true) (has : argsOk es = true)
    (ho : SE X W wx o fo) (ha : SA X W wx es fr) (h0 : es = [] → fr = fun _ m => .ok [] m) :
    SE X W wx (.Call (.Attribute o (bmName f) apos) es [] pos) (fun l m => (fo l m).bind fun x m1 => recvR f x (fun m => (fr l m).bind fun vs m2 => bmop f x vs m2) m1) := by
  cases es with
  | nil =>
    rw [h0 rfl]
    cases f with
    | append => exact se_bm0 hk PySem.F.plainAttrs_list PySem.F.slot_list_append PySem.F.type_list_append m_append (base_plain hb) hl ho
    | pop => exact se_bm0 hk PySem.F.plainAttrs_list PySem.F.slot_list_pop PySem.F.type_list_pop m_pop (base_plain hb) hl ho
    | reverse => exact se_bm0 hk PySem.F.plainAttrs_list PySem.F.slot_list_reverse PySem.F.type_list_reverse m_reverse (base_plain hb) hl ho
    | clear => exact se_bm0 hk PySem.F.plainAttrs_list PySem.F.slot_list_clear PySem.F.type_list_clear m_clear (base_plain hb) hl ho
    | extend => exact se_bm0 hk PySem.F.plainAttrs_list PySem.F.slot_list_extend PySem.F.type_list_extend m_extend (base_plain hb) hl ho
  | cons e es =>
    obtain ⟨h1, h2, h3⟩ := args1 has
    have hfew : ((backTo pos (starEach (e :: es) X.env)).all (fun x => !x.1) && (backToKw pos (keywordEach [] X.env)).all (fun x => x.1.isSome)
      && decide ((e :: es).length + ([] : List Keyword).length + (if ([] : List Keyword).isEmpty then 0 else 1) < 30)) = true := by
      rw [back_all (args_all has), Bool.and_eq_true, Bool.and_eq_true]
      exact ⟨⟨rfl, rfl⟩, decide_eq_true (by
        show (e :: es).length + 0 + 0 < 30
        omega)⟩
    cases f with
    | append => exact se_bm hk PySem.F.plainAttrs_list PySem.F.slot_list_append PySem.F.type_list_append m_append (base_plain hb) hl ho ha hfew (star_cons h1) (back_plain h2)
    | pop => exact se_bm hk PySem.F.plainAttrs_list PySem.F.slot_list_pop PySem.F.type_list_pop m_pop (base_plain hb) hl ho ha hfew (star_cons h1) (back_plain h2)
    | reverse => exact se_bm hk PySem.F.plainAttrs_list PySem.F.slot_list_reverse PySem.F.type_list_reverse m_reverse (base_plain hb) hl ho ha hfew (star_cons h1) (back_plain h2)
    | clear => exact se_bm hk PySem.F.plainAttrs_list PySem.F.slot_list_clear PySem.F.type_list_clear m_clear (base_plain hb) hl ho ha hfew (star_cons h1) (back_plain h2)
    | extend => exact se_bm hk PySem.F.plainAttrs_list PySem.F.slot_list_extend PySem.F.type_list_extend m_extend (base_plain hb) hl ho ha hfew (star_cons h1) (back_plain h2)

/-! targets -/
mutual
theorem okT (hk : W.K = X.K) (hc : X.calm = true) (hn : X.N = N) (hd : X.N.Nodup) (hl : ∀ x, isLoc sc fb x = true → L2.Loc X.env.scope x ∧ (X.fn x = true ∨ X.env.scope.names.lookup x = some .local)) : ∀ (t : Tg) (e : Expr), chkT N sc fb e t = true → PG X e (gSem W t)
  | .name i, e, h => by
    unfold chkT at h
    split at h
    · rw [Bool.and_eq_true] at h
      have q := hl _ h.2
      exact sg_name hd (by rw [hn]; exact of_decide_eq_true h.1) q.1 q.2
    · cases h
  | .tup ts, e, h => by
    unfold chkT at h
    split at h
    · obtain ⟨p, a, b⟩ := okTs hk hc hn hd hl ts _ h
      exact sg_tup hk hc p a b
    · cases h
theorem okTs (hk : W.K = X.K) (hc : X.calm = true) (hn : X.N = N) (hd : X.N.Nodup) (hl : ∀ x, isLoc sc fb x = true → L2.Loc X.env.scope x ∧ (X.fn x = true ∨ X.env.scope.names.lookup x = some .local)) : ∀ (ts : List Tg) (es : List Expr), chkTs N sc fb es ts = true →
    PGs X es (gSems W ts) ∧ (assignEach es X.env).length = ts.length ∧ (assignEach es X.env).findIdx? (·.1) = none
  | [], es, h => by
    unfold chkTs at h
    cases es with
    | nil => exact ⟨sg_nil, rfl, rfl⟩
    | cons _ _ => cases h
  | t :: ts, es, h => by
    unfold chkTs at h
    cases es with
    | nil => cases h
    | cons e es =>
      simp only [Bool.and_eq_true] at h
      obtain ⟨⟨h1, h2⟩, h3⟩ := h
      have h1' : isStar e = false := by simpa using h1
      have e1 : assignEach (e :: es) X.env = (false, assign e X.env) :: assignEach es X.env := by cases e <;> first | rfl | cases h1'
      obtain ⟨p, a, b⟩ := okTs hk hc hn hd hl ts es h3
      refine ⟨sg_cons (okT hk hc hn hd hl t e h2) p (by rw [e1]; rfl), by rw [e1]; exact congrArg Nat.succ a, ?_⟩
      rw [e1, List.findIdx?_cons, b]; rfl
end

end
end Py

namespace Py
open PySem PySem.Spec PyProof.Rows L2

section
variable {X : Cx} {W : Wd} {wx : WX} {e : Expr} {f g : Py.Loc → Mem → Res Val}
theorem SB.of (h : SB X W wx e f) (q : ∀ l m, g l m = f l m) : SB X W wx e g := by
  have e : g = f := by funext l m; exact q l m
  rw [e]; exact h
theorem SE.of (h : SE X W wx e f) (q : ∀ l m, g l m = f l m) : SE X W wx e g := by
  have e : g = f := by funext l m; exact q l m
  rw [e]; exact h
end
theorem SA.of {X : Cx} {W : Wd} {wx : WX} {es : List Expr} {f g : Py.Loc → Mem → Res (List Val)} (h : SA X W wx es f) (q : ∀ l m, g l m = f l m) : SA X W wx es g := by
  have e : g = f := by funext l m; exact q l m
  rw [e]; exact h
theorem SI.of {X : Cx} {W : Wd} {wx : WX} {tg iter : Expr} {f g : Py.Loc → Mem → Res (List Val × Option (Nat × List Val))} (h : SI X W wx tg iter f) (q : ∀ l m, g l m = f l m) : SI X W wx tg iter g := by
  have e : g = f := by funext l m; exact q l m
  rw [e]; exact h
theorem callN_dead {P : Prog} {d : Nat} {f : PySem.Str} {vs : List Val} {m : Mem} (h : P.ent f = none) : callN P d f vs m = .err := by
  cases d with
  | zero => rfl
  | succ d => unfold callN; rw [h]

/-- what a comprehension's parts give -/
def CompS (X : Cx) (W : Wd) (wx : WX) (e : Expr) (f : Py.Loc → Mem → Res Val) : Prop :=
  ∃ t' : TE, PE X e t' ∧
      (∀ {i : Nat} {y : PySem.Str} {py spos : Pos}, X.N[i]? = some y → X.env.scope.names.lookup y = some .local → swapsWith e (some (.Name y py)) spos.line X.env = pure true →
        PS X (.Assign [.Name y py] e spos) (tAsg t' (gName i))) ∧
      ∀ (σ : L2.St) (H : Hp) (ρ : Nat → Addr) (l : Py.Loc) (m : Mem) (Q : VK), SimS W.K ρ m.length H l σ → Sim W ρ m H → Post W wx σ ρ m.length H (f l m) Q → t' σ H Q
theorem CompS.se {X : Cx} {W : Wd} {wx : WX} {e : Expr} {f : Py.Loc → Mem → Res Val} (h : CompS X W wx e f) : SE X W wx e f := let ⟨t, p, _, q⟩ := h; ⟨t, p, q⟩
theorem CompS.of {X : Cx} {W : Wd} {wx : WX} {e : Expr} {f g : Py.Loc → Mem → Res Val} (h : CompS X W wx e f) (q : ∀ l m, g l m = f l m) : CompS X W wx e g := by
  have e : g = f := by funext l m; exact q l m
  rw [e]; exact h
theorem ownOf_slots {N : List PySem.Str} {t : Tg} : (ownOf N t).map (·.2) = t.slots := by
  unfold ownOf
  rw [List.map_map]
  exact List.map_id' _

section
variable {P : Prog} {fre : List PySem.Str} {T : Tbl} {d : Nat} {N : List PySem.Str}
theorem compS_of {X : Cx} {W : Wd} {wx : WX} {sc : Scope} {fb : PySem.Str → Bool} {elt iter tg : Expr} {fi : Py.Loc → Mem → Res (List Val × Option (Nat × List Val))} {fe : Py.Loc → Mem → Res Val} {t : Tg} {scope : Scope} {pos : Pos}
    (g : Good P fre T d X W wx N sc fb) (hs : isSetD iter = false) (hb : blkC N sc scope (ownOf N t) = true) (hi : SI X W wx tg iter fi) (ht : chkT N (relS scope sc) (cellB scope) tg t = true)
    (he : ∀ X', Good P fre T d X' W (fun _ _ _ _ => False) N (relS scope sc) (cellB scope) → SB X' W (fun _ _ _ _ => False) elt fe) :
    CompS X W wx (.ListComp elt [⟨tg, iter, [], 0⟩] scope pos) (fun l m => (fi l m).bind fun w m1 => compEnd (compLoop w.2 (compEl t l fe) w.1 m1)) := by
  have ok : BlkOk X.N X.env.scope scope (ownOf N t) := by
    rw [g.sc, g.nm]; exact blkOk_by hb
  exact se_compG (fc := none) (fe := fe) g.calm g.nd hi ok ownOf_slots (fun s H C cl fp => okT (X := X.blk s H scope (compEnvC scope cl C X.env) fp) g.k g.calm g.nm g.nd (fun x hx => (g.blk s H scope C cl fp).loc hx) t tg ht)
    (fun s H C cl fp => pts_nil) (fun s H C cl fp => (he _ (g.blk s H scope C cl fp)).ve.pe) (fold_plain hs)
theorem compSIf_of {X : Cx} {W : Wd} {wx : WX} {sc : Scope} {fb : PySem.Str → Bool} {elt iter tg cd : Expr} {fi : Py.Loc → Mem → Res (List Val × Option (Nat × List Val))} {fe fc : Py.Loc → Mem → Res Val} {t : Tg} {scope : Scope} {pos : Pos}
    (g : Good P fre T d X W wx N sc fb) (hs : isSetD iter = false) (hb : blkC N sc scope (ownOf N t) = true) (hi : SI X W wx tg iter fi) (ht : chkT N (relS scope sc) (cellB scope) tg t = true)
    (hc : ∀ X', Good P fre T d X' W (fun _ _ _ _ => False) N (relS scope sc) (cellB scope) → SB X' W (fun _ _ _ _ => False) cd fc)
    (he : ∀ X', Good P fre T d X' W (fun _ _ _ _ => False) N (relS scope sc) (cellB scope) → SB X' W (fun _ _ _ _ => False) elt fe) :
    CompS X W wx (.ListComp elt [⟨tg, iter, [cd], 0⟩] scope pos) (fun l m => (fi l m).bind fun w m1 => compEnd (compLoop w.2 (compElIf t l fc fe) w.1 m1)) := by
  have ok : BlkOk X.N X.env.scope scope (ownOf N t) := by
    rw [g.sc, g.nm]; exact blkOk_by hb
  exact se_compG (fc := some fc) (fe := fe) g.calm g.nd hi ok ownOf_slots (fun s H C cl fp => okT (X := X.blk s H scope (compEnvC scope cl C X.env) fp) g.k g.calm g.nm g.nd (fun x hx => (g.blk s H scope C cl fp).loc hx) t tg ht)
    (fun s H C cl fp => pts_one (hc _ (g.blk s H scope C cl fp)).te.pt) (fun s H C cl fp => (he _ (g.blk s H scope C cl fp)).ve.pe) (fold_plain hs)

theorem call_ok {X : Cx} {W : Wd} {wx : WX} {sc : Scope} {fb : PySem.Str → Bool} {f : PySem.Str} {xs : List Expr} {fr : Py.Loc → Mem → Res (List Val)} {p pos : Pos} (g : Good P fre T d X W wx N sc fb) (hg : isGl sc f = true) (hn : nmOk f = true) (hc : callable P f = true) (has : argsOk xs = true)
    (ha : SA X W wx xs fr) (h0 : xs = [] → fr = fun _ m => .ok [] m) : SE X W wx (.Call (.Name f p) xs [] pos) (fun l m => (fr l m).bind fun vs m1 => callN P d f vs m1) := by
  unfold callable at hc
  cases ef : P.ent f with
  | none => rw [ef] at hc; cases hc
  | some en =>
    rw [ef] at hc
    cases en with
    | mth _ => cases hc
    | kw _ => cases hc
    | clsK _ => cases hc
    | fn fd =>
      obtain ⟨h1, h2, h3⟩ := g.fac.fn f fd ef
      have F := g.lv d (Nat.le_refl _) f fd (.inl ef)
      rw [g.k] at F h2 h3
      cases xs with
      | nil => rw [h0 rfl]; exact se_call0 F g.rm (g.gl hg) h1 h2 h3 g.tk (nm1 hn).1
      | cons a as =>
        obtain ⟨s1, s2, _⟩ := args1 has
        exact se_call F g.rm (g.gl hg) h1 h2 h3 g.tk (nm1 hn).1 (star_cons s1) (back_plain s2) ha
    | cls i =>
      obtain ⟨h1, h2, h3, fi, h4⟩ := g.fac.cls f i ef
      have hb := g.fac.mth i fi h4
      obtain ⟨j, F, hr, q⟩ : ∃ j, FnOk X.prog X.w W.K X.mg X.base (L2.CX X.prog X.w) (5 * d) (T.ad i) (T.fd i) (T.ps i) (spC W (callN P j) i) ∧ Room (5 * d + 1) X.A ∧ ∀ vs m1, callN P d f vs m1 = gc m1 ((callN P j i (.ref m1.length :: vs) (m1 ++ [.inst f []])).bind (mkG m1.length)) := by
        cases d with
        | zero =>
          have no : ∀ vs H Q E, ¬ spC W (callN P 0) i vs H Q E := fun vs H Q E ⟨ρ, m, xs, _, _, p⟩ => p
          exact ⟨0, ⟨fun vs H Q E h => absurd h (no vs H Q E), fun A outer s H args us vs Q E _ _ _ _ h => absurd h (no vs H Q E)⟩, g.rm, fun vs m1 => rfl⟩
        | succ j => exact ⟨j, (g.lv j (Nat.le_succ _) i fi (.inr (.inl h4))).mono (by omega), g.rm, fun vs m1 => by rw [callN, ef]⟩
      rw [g.k] at F hb h3
      cases xs with
      | nil =>
        rw [h0 rfl]
        exact (se_make0 g.k h2 h3 F hr (g.gl hg) h1 hb g.tk (nm1 hn).1).of fun l m => by
          show callN P d f [] m = _
          rw [q]; rfl
      | cons a as =>
        obtain ⟨s1, s2, _⟩ := args1 has
        exact (se_make g.k h2 h3 F hr (g.gl hg) h1 hb g.tk (nm1 hn).1 (star_cons s1) (back_plain s2) ha).of fun l m => by
          have : (fun vs m1 => callN P d f vs m1) = fun vs m1 => gc m1 ((callN P j i (.ref m1.length :: vs) (m1 ++ [.inst f []])).bind (mkG m1.length)) := by funext vs m1; exact q vs m1
          rw [this]
theorem evalL_len {P : Prog} {C : Calls} : ∀ {es : List E} {l : Py.Loc} {m m1 : Mem} {vs : List Val}, evalL P C es l m = .ok vs m1 → vs.length = es.length
  | [], l, m, m1, vs, h => by rw [evalL] at h; cases h; rfl
  | e :: es, l, m, m1, vs, h => by
    rw [evalL] at h
    cases e1 : evalE P C e l m with
    | err => rw [e1] at h; cases h
    | exc _ _ _ => rw [e1] at h; cases h
    | ok v m2 =>
      rw [e1] at h
      simp only [Res.bind] at h
      cases e2 : evalL P C es l m2 with
      | err => rw [e2] at h; cases h
      | exc _ _ _ => rw [e2] at h; cases h
      | ok ws m3 =>
        rw [e2] at h
        cases h
        simp [evalL_len e2]
theorem chkL_len {P : Prog} {fre N : List PySem.Str} {sc : Scope} {fb : PySem.Str → Bool} : ∀ {es : List E} {xs : List Expr}, chkL P fre N sc fb xs es = true → xs.length = es.length
  | [], xs, h => by unfold chkL at h; rw [List.isEmpty_iff.mp h]; rfl
  | e :: es, xs, h => by
    unfold chkL at h
    cases xs with
    | nil => cases h
    | cons x xs =>
      simp only [Bool.and_eq_true] at h
      simp [chkL_len h.2]
/-- a class whose __init__ has a keyword-only parameter -/
theorem clsK_at {X : Cx} {W : Wd} {wx : WX} {sc : Scope} {fb : PySem.Str → Bool} {f i : PySem.Str} (g : Good P fre T d X W wx N sc fb) (h : P.ent f = some (.clsK i)) :
    X.mg f = some (.ref (W.cad f)) ∧ Cls W.K (W.cad f) ∧ Mk X.K (W.cad f) (T.ad i) ∧ (∃ k w fi, P.kwn i = some (k, w) ∧ P.ent i = some (.kw fi) ∧ fi.np = (T.ps i).length ∧ KwB X.K (T.fd i) (T.ps i) k w) ∧
      ∃ j, FnOk X.prog X.w X.K X.mg X.base (L2.CX X.prog X.w) (5 * d) (T.ad i) (T.fd i) (T.ps i) (spC W (callN P j) i) ∧ Room (5 * d + 1) X.A ∧ ∀ vs m1, callN P d f vs m1 = gc m1 ((callN P j i (.ref m1.length :: vs) (m1 ++ [.inst f []])).bind (mkG m1.length)) := by
  obtain ⟨h1, h2, h3, fi, h4, h5⟩ := g.fac.clsK f i h
  obtain ⟨kn, w, hb1, hb⟩ := g.fac.kw i fi h4
  obtain ⟨j, F, hr, q⟩ : ∃ j, FnOk X.prog X.w W.K X.mg X.base (L2.CX X.prog X.w) (5 * d) (T.ad i) (T.fd i) (T.ps i) (spC W (callN P j) i) ∧ Room (5 * d + 1) X.A ∧ ∀ vs m1, callN P d f vs m1 = gc m1 ((callN P j i (.ref m1.length :: vs) (m1 ++ [.inst f []])).bind (mkG m1.length)) := by
    cases d with
    | zero =>
      have no : ∀ vs H Q E, ¬ spC W (callN P 0) i vs H Q E := fun vs H Q E ⟨ρ, m, xs, _, _, p⟩ => p
      exact ⟨0, ⟨fun vs H Q E h => absurd h (no vs H Q E), fun A outer s H args us vs Q E _ _ _ _ h => absurd h (no vs H Q E)⟩, g.rm, fun vs m1 => rfl⟩
    | succ j => exact ⟨j, (g.lv j (Nat.le_succ _) i fi (.inr (.inr h4))).mono (by omega), g.rm, fun vs m1 => by rw [callN, h]⟩
  rw [g.k] at F hb h3
  exact ⟨h1, h2, h3, ⟨kn, w, fi, hb1, h4, h5, hb⟩, j, F, hr, q⟩
end
end Py

namespace Py
open PySem PySem.Spec PyProof.Rows L2

section
variable {P : Prog} {fre : List PySem.Str} {T : Tbl} {d : Nat} {N : List PySem.Str}
theorem meth_ok {X : Cx} {W : Wd} {wx : WX} {sc : Scope} {fb : PySem.Str → Bool} {o : Expr} {f : PySem.Str} {xs : List Expr} {fo : Py.Loc → Mem → Res Val} {fr : Py.Loc → Mem → Res (List Val)} {apos pos : Pos} (g : Good P fre T d X W wx N sc fb)
    (hb : noSuper o = true) (hl : (apos.endLine == pos.line) = true) (has : argsOk xs = true) (ho : SE X W wx o fo) (ha : SA X W wx xs fr) (h0 : xs = [] → fr = fun _ m => .ok [] m) :
    SE X W wx (.Call (.Attribute o f apos) xs [] pos) (fun l m => (fo l m).bind fun x m1 => methR P (callN P d) f (fr l) x m1) := by
  have hM : ∀ c0 q, P.meth c0 f = some q → MethOk X W (callN P d) (5 * d + 1) c0 f q := fun c0 q h => by
    obtain ⟨h1, fq, h2⟩ := g.fac.meth c0 f q h
    have F := g.lv d (Nat.le_refl _) q fq (.inr (.inl h2))
    have hb := g.fac.mth q fq h2
    rw [g.k] at h1 F hb
    exact ⟨_, _, _, h1, F, hb⟩
  cases xs with
  | nil => rw [h0 rfl]; exact se_meth0 g.k (base_plain hb) hl hM g.rm g.tk ho
  | cons a as =>
    obtain ⟨s1, s2, s3⟩ := args1 has
    have hform : methodCallForm ((a :: as).length + ([] : List Keyword).length) (backTo pos (starEach (a :: as) X.env)) (backToKw pos (keywordEach [] X.env)) = true := by
      unfold methodCallForm
      rw [back_all (args_all has), Bool.and_eq_true, Bool.and_eq_true]
      exact ⟨⟨rfl, rfl⟩, decide_eq_true (by
        show (a :: as).length + 0 + 0 < 30
        omega)⟩
    exact se_meth g.k (base_plain hb) hl hform hM g.rm g.tk (star_cons s1) (back_plain s2) ho ha

theorem meth_all {X : Cx} {W : Wd} {wx : WX} {sc : Scope} {fb : PySem.Str → Bool} {f : PySem.Str} (g : Good P fre T d X W wx N sc fb) : ∀ c0 q, P.meth c0 f = some q → MethOk X W (callN P d) (5 * d + 1) c0 f q := fun c0 q h => by
    obtain ⟨h1, fq, h2⟩ := g.fac.meth c0 f q h
    have F := g.lv d (Nat.le_refl _) q fq (.inr (.inl h2))
    have hb := g.fac.mth q fq h2
    rw [g.k] at h1 F hb
    exact ⟨_, _, _, h1, F, hb⟩
theorem prop_all {X : Cx} {W : Wd} {wx : WX} {sc : Scope} {fb : PySem.Str → Bool} {f : PySem.Str} (g : Good P fre T d X W wx N sc fb) : ∀ c0 q, P.prop c0 f = some q → PropOk X W (callN P d) (5 * d + 1) c0 f q := fun c0 q h => by
    obtain ⟨⟨p, h1⟩, fq, h2⟩ := g.fac.prop c0 f q h
    have F := g.lv d (Nat.le_refl _) q fq (.inr (.inl h2))
    have hb := g.fac.mth q fq h2
    rw [g.k] at h1 F hb
    exact ⟨_, _, _, _, h1, F, hb⟩

theorem isi_cong {a b : Option TyK} {f g : TyK → Res Val} (h : a = b) (k : ∀ t, f t = g t) : (match a with | some t => f t | none => .err) = (match b with | some t => g t | none => .err) := by
  subst h; cases a with
  | none => rfl
  | some t => exact k t

mutual
theorem okE : ∀ (x : E) {X : Cx} {W : Wd} {wx : WX} {sc : Scope} {fb : PySem.Str → Bool} {e : Expr}, Good P fre T d X W wx N sc fb → chkE P fre N sc fb e x = true → SB X W wx e (evalE P (callN P d) x)
  | .lit v, X, W, wx, sc, fb, e, g, h => by
    unfold chkE at h
    split at h
    · exact SB.plain g.k ((lit_ok h).of fun l m => by rw [evalE] <;> rfl) (true_plain rfl)
    · cases h
  | .var i, X, W, wx, sc, fb, e, g, h => by
    unfold chkE at h
    split at h
    · simp only [Bool.and_eq_true] at h
      obtain ⟨⟨h1, h2⟩, h3⟩ := h
      exact SB.plain g.k ((se_var (by rw [g.nm]; exact of_decide_eq_true h1) (g.vis h2) (nm1 h3).1 (nm1 h3).2).of fun l m => by rw [evalE] <;> rfl) (true_plain rfl)
    · cases h
  | .glob x, X, W, wx, sc, fb, e, g, h => by
    unfold chkE at h
    split at h
    · simp only [Bool.and_eq_true] at h
      obtain ⟨⟨h1, h2⟩, h3⟩ := h
      have e1 := of_decide_eq_true h1
      subst e1
      cases eg : P.glob _ with
      | none => exact sb_dead.of fun l m => by rw [evalE, eg]
      | some v =>
        obtain ⟨u, w, m1, m2, m3⟩ := g.fac.glob _ v eg
        exact SB.plain g.k ((se_of (pe_glob (g.gl h2) m1 m2 (nm1 h3).1) (fun σ H Q q => q) m3).of fun l m => by rw [evalE, eg]) (true_plain rfl)
    · cases h
  | .bin o a b, X, W, wx, sc, fb, e, g, h => by
    unfold chkE at h
    split at h
    · simp only [Bool.and_eq_true] at h
      obtain ⟨⟨h1, h2⟩, h3⟩ := h
      rw [of_decide_eq_true h1]
      exact SB.plain g.k ((se_bin g.k o (okE a g h2).ve (okE b g h3).ve).of fun l m => by rw [evalE] <;> rfl) (true_plain rfl)
    · cases h
  | .neg a, X, W, wx, sc, fb, e, g, h => by
    unfold chkE at h
    split at h
    · exact SB.plain g.k ((se_neg (okE a g h).ve).of fun l m => by rw [evalE] <;> rfl) (true_plain rfl)
    · cases h
  | .cmp o a b, X, W, wx, sc, fb, e, g, h => by
    unfold chkE at h
    split at h
    · simp only [Bool.and_eq_true] at h
      obtain ⟨⟨⟨h1, h2⟩, h3⟩, h4⟩ := h
      have e1 := of_decide_eq_true h1
      subst e1
      exact (sb_cmp g.k g.units o (by simpa using h2) (okE a g h3).ve (okE b g h4).ve).of fun l m => by rw [evalE] <;> rfl
    · cases h
  | .chain o1 o2 a b c, X, W, wx, sc, fb, e, g, h => by
    unfold chkE at h
    split at h
    · simp only [Bool.and_eq_true] at h
      obtain ⟨⟨⟨⟨⟨h1, h2⟩, h3⟩, h4⟩, h5⟩, h6⟩ := h
      have e1 := of_decide_eq_true h1
      have e2 := of_decide_eq_true h2
      subst e1 e2
      exact (sb_chain g.k g.units o1 o2 (by simpa using h3) (okE a g h4).ve (okE b g h5).ve (okE c g h6).ve).of fun l m => by rw [evalE] <;> rfl
    · cases h
  | .band a b, X, W, wx, sc, fb, e, g, h => by
    unfold chkE at h
    split at h
    · rename_i x y r pos
      simp only [Bool.and_eq_true] at h
      obtain ⟨h1, h2⟩ := h
      cases r with
      | nil => exact (sw_and (okE a g h1) (sw_and1 (okE b g h2))).sb.of fun l m => by rw [evalE] <;> rfl
      | cons z r => exact (sw_and (okE a g h1) (okE b g h2).bool).sb.of fun l m => by rw [evalE] <;> rfl
    · cases h
  | .bor a b, X, W, wx, sc, fb, e, g, h => by
    unfold chkE at h
    split at h
    · rename_i x y r pos
      simp only [Bool.and_eq_true] at h
      obtain ⟨h1, h2⟩ := h
      cases r with
      | nil => exact (sw_or (okE a g h1) (sw_or1 (okE b g h2))).sb.of fun l m => by rw [evalE] <;> rfl
      | cons z r => exact (sw_or (okE a g h1) (okE b g h2).bool).sb.of fun l m => by rw [evalE] <;> rfl
    · cases h
  | .bnot a, X, W, wx, sc, fb, e, g, h => by
    unfold chkE at h
    split at h
    · exact (sb_not (okE a g h)).of fun l m => by rw [evalE] <;> rfl
    · cases h
  | .ite c a b, X, W, wx, sc, fb, e, g, h => by
    unfold chkE at h
    split at h
    · simp only [Bool.and_eq_true] at h
      obtain ⟨⟨h1, h2⟩, h3⟩ := h
      exact (sb_ite (okE c g h1) (okE a g h2) (okE b g h3)).of fun l m => by rw [evalE] <;> rfl
    · cases h
  | .tup es, X, W, wx, sc, fb, e, g, h => by
    unfold chkE at h
    split at h
    · exact SB.plain g.k ((se_tup (okL es g h).1).of fun l m => by rw [evalE] <;> rfl) (true_plain rfl)
    · cases h
  | .lst es, X, W, wx, sc, fb, e, g, h => by
    unfold chkE at h
    split at h
    · exact SB.plain g.k ((se_lst (okL es g h).1).of fun l m => by rw [evalE] <;> rfl) (true_plain rfl)
    · cases h
  | .dct tk ks vs, X, W, wx, sc, fb, e, g, h => by
    unfold chkE at h
    split at h
    · simp only [Bool.and_eq_true] at h
      obtain ⟨⟨h1, h2⟩, h3⟩ := h
      rw [h1, List.isEmpty_iff.mp h2, List.isEmpty_iff.mp h3]
      exact SB.plain g.k (se_dnew.of fun l m => by rw [evalE, evalL]; rfl) (true_plain rfl)
    · cases h
  | .din neg a d, X, W, wx, sc, fb, e, g, h => by
    unfold chkE at h
    split at h
    · simp only [Bool.and_eq_true] at h
      obtain ⟨⟨⟨h1, h2⟩, h3⟩, h4⟩ := h
      have e1 := of_decide_eq_true h1
      subst e1
      have hu : X.A.units + 1 < cLine := by have := g.units; omega
      cases neg with
      | true => exact (sb_dnin hu (by simpa using h2) (okE a g h3).ve (okE d g h4).ve).of fun l m => by rw [evalE] <;> rfl
      | false => exact (sb_din hu (by simpa using h2) (okE a g h3).ve (okE d g h4).ve).of fun l m => by rw [evalE] <;> rfl
    · cases h
  | .dget d a, X, W, wx, sc, fb, e, g, h => by
    unfold chkE at h
    split at h
    · simp only [Bool.and_eq_true] at h
      obtain ⟨⟨h1, h2⟩, h3⟩ := h
      have hu : X.A.units + 1 < cLine := by have := g.units; omega
      exact SB.plain g.k ((se_dget hu (okE d g h2).ve (okE a g h3).ve (nosl_plain (by simpa using h1))).of fun l m => by rw [evalE] <;> rfl) (true_plain rfl)
    · cases h
  | .dgetD d a z, X, W, wx, sc, fb, e, g, h => by
    unfold chkE at h
    split at h
    · simp only [Bool.and_eq_true] at h
      obtain ⟨⟨⟨⟨⟨⟨⟨h1, h2⟩, h3⟩, h4⟩, h5⟩, h6⟩, h7⟩, h8⟩ := h
      have hu : X.A.units + 1 < cLine := by have := g.units; omega
      have e1 := of_decide_eq_true h1
      subst e1
      exact SB.plain g.k ((se_dgetD hu (get_m2 h2 h3 (by simpa using h4) (by simpa using h5)) (okE d g h6).ve (okE a g h7).ve (okE z g h8).ve).of fun l m => by rw [evalE] <;> rfl) (true_plain rfl)
    · cases h
  | .dpop d a, X, W, wx, sc, fb, e, g, h => by
    unfold chkE at h
    split at h
    · simp only [Bool.and_eq_true] at h
      obtain ⟨⟨⟨⟨⟨h1, h2⟩, h3⟩, h4⟩, h6⟩, h7⟩ := h
      have hu : X.A.units + 1 < cLine := by have := g.units; omega
      have e1 := of_decide_eq_true h1
      subst e1
      exact SB.plain g.k ((se_dpop hu (pop_m1 h2 h3 (by simpa using h4)) (okE d g h6).ve (okE a g h7).ve).of fun l m => by rw [evalE] <;> rfl) (true_plain rfl)
    · cases h
  | .keysD a, X, W, wx, sc, fb, e, g, h => by
    unfold chkE at h
    split at h
    · simp only [Bool.and_eq_true] at h
      obtain ⟨⟨⟨⟨h1, h2⟩, h3⟩, h4⟩, h5⟩ := h
      have e1 := of_decide_eq_true h1
      subst e1
      exact SB.plain g.k ((se_keysD g.calm (g.gl h2) (g.fac.free _ h3) (star_cons (by simpa using h4)) (okE a g h5).ve).of fun l m => by rw [evalE] <;> rfl) (true_plain rfl)
    · cases h
  | .sortP a, X, W, wx, sc, fb, e, g, h => by
    unfold chkE at h
    split at h
    · simp only [Bool.and_eq_true] at h
      obtain ⟨⟨⟨⟨h1, h2⟩, h3⟩, h4⟩, h5⟩ := h
      have e1 := of_decide_eq_true h1
      subst e1
      exact SB.plain g.k ((se_sortP g.k g.calm g.units (g.gl h2) (g.fac.free _ h3) (star_cons (by simpa using h4)) (okE a g h5).ve).of fun l m => by rw [evalE] <;> rfl) (true_plain rfl)
    · cases h
  | .call f es, X, W, wx, sc, fb, e, g, h => by
    unfold chkE at h
    split at h
    · simp only [Bool.and_eq_true] at h
      obtain ⟨⟨⟨⟨⟨h1, h2⟩, h3⟩, h4⟩, h5⟩, h6⟩ := h
      have e1 := of_decide_eq_true h1
      subst e1
      obtain ⟨ha, h0⟩ := okL es g h6
      exact SB.plain g.k ((call_ok g h2 h3 h4 h5 ha h0).of fun l m => by rw [evalE] <;> rfl) (true_plain rfl)
    · cases h
  | .callK f es k z, X, W, wx, sc, fb, e, g, h => by
    unfold chkE at h
    split at h
    · rename_i g0 p x xs k' y kpos pos
      simp only [Bool.and_eq_true] at h
      obtain ⟨⟨⟨⟨⟨⟨⟨⟨h1, h2⟩, h3⟩, h4⟩, h5⟩, h6⟩, h7⟩, h8⟩, h9⟩ := h
      have e1 := of_decide_eq_true h1
      have e4 := of_decide_eq_true h4
      subst e1 e4
      have h6' : isStar x = false := by simpa using h6
      unfold kwOk at h5
      split at h5
      · rename_i i ei
        split at h5
        · rename_i k2 w2 ek
          split at h5
          · rename_i fd ed
            rw [Bool.and_eq_true] at h5
            have e5 := of_decide_eq_true h5.1
            have hn := of_decide_eq_true h5.2
            subst e5
            obtain ⟨a1, a2, a3, ⟨k3, w3, fi, a4, a5, a6, a7⟩, j, F, hr, q⟩ := clsK_at g ei
            rw [ek] at a4
            rw [ed] at a5
            cases a4
            cases a5
            obtain ⟨ha, _⟩ := okL es g h8
            have hb := a7.kw
            have e6 : (T.ps i).length - 1 = (x :: xs).length + 1 := by omega
            rw [e6] at hb
            have hpl : ((backTo pos (starEach (x :: xs) X.env)).any (·.1) || (backToKw pos (keywordEach [⟨some k2, y, kpos⟩] X.env)).any (·.1.isNone)) = false := by
              rw [star_cons h6']
              show (false || (backTo pos (starEach xs X.env)).any (·.1) || false) = false
              rw [back_plain h7]; rfl
            refine SB.plain g.k ((se_makeK (n := (x :: xs).length) g.k a2 a3 F hr (g.gl h2) a1 hb g.tk (nm1 h3).1 (star_cons h6') hpl (fun l m vs m1 e => ?_) ha (okE z g h9).ve).of fun l m => ?_) (true_plain rfl)
            · rw [evalL_len e, ← chkL_len h8]
            · have : (fun vs m1 => (evalE P (callN P d) z l m1).bind fun w m2 => callN P d g0 (vs ++ [w]) m2) = fun vs m1 => (evalE P (callN P d) z l m1).bind fun w m2 => gc m2 ((callN P j i (.ref m2.length :: (vs ++ [w])) (m2 ++ [.inst g0 []])).bind (mkG m2.length)) := by
                funext vs m1; congr 1; funext w m2; exact q _ _
              rw [evalE, this]
          · cases h5
        · cases h5
      · cases h5
    · cases h
  | .callD f es, X, W, wx, sc, fb, e, g, h => by
    unfold chkE at h
    split at h
    · rename_i g0 p x xs pos
      simp only [Bool.and_eq_true] at h
      obtain ⟨⟨⟨⟨⟨⟨h1, h2⟩, h3⟩, h5⟩, h6⟩, h7⟩, h8⟩ := h
      have e1 := of_decide_eq_true h1
      subst e1
      have h6' : isStar x = false := by simpa using h6
      unfold dfOk at h5
      split at h5
      · rename_i i ei
        obtain ⟨a1, a2, a3, ⟨k3, w3, fi, a4, a5, a6, a7⟩, j, F, hr, q⟩ := clsK_at g ei
        obtain ⟨dv, ds, b1, b2, b3⟩ := a7.dfl
        obtain ⟨ha, _⟩ := okL es g h8
        refine SB.plain g.k ((se_makeD g.k a2 a3 F hr (g.gl h2) a1 b2 b1 (by rw [g.k]; exact b3) g.tk (nm1 h3).1 (star_cons h6') (back_plain h7) ha).of fun l m => ?_) (true_plain rfl)
        have : (fun vs m1 => callN P d g0 (vs ++ [w3]) m1) = fun vs m1 => gc m1 ((callN P j i (.ref m1.length :: (vs ++ [w3])) (m1 ++ [.inst g0 []])).bind (mkG m1.length)) := by
          funext vs m1; exact q _ _
        rw [evalE, ei]
        simp only [a4]
        rw [this]
      · cases h5
    · cases h
  | .blt f es, X, W, wx, sc, fb, e, g, h => by
    unfold chkE at h
    split at h
    · rename_i g0 p xs pos
      simp only [Bool.and_eq_true] at h
      obtain ⟨⟨⟨⟨⟨h1, h2⟩, h3⟩, h4⟩, h5⟩, h6⟩ := h
      have e1 := of_decide_eq_true h1
      subst e1
      obtain ⟨ha, _⟩ := okL es g h6
      cases xs with
      | nil => cases h4
      | cons y ys =>
        obtain ⟨s1, s2, _⟩ := args1 h5
        exact SB.plain g.k ((blt_ok g.k g.calm (g.gl h2) (g.fac.free _ h3) (star_cons s1) (back_plain s2) ha).of fun l m => by rw [evalE] <;> rfl) (true_plain rfl)
    · cases h
  | .tin neg t a, X, W, wx, sc, fb, e, g, h => by
    unfold chkE at h
    split at h
    · simp only [Bool.and_eq_true] at h
      obtain ⟨⟨⟨⟨⟨h1, h2⟩, h3⟩, h4⟩, h5⟩, h6⟩ := h
      have e1 := of_decide_eq_true h1
      have e2 := of_decide_eq_true h2
      subst e1 e2
      obtain ⟨rows, er⟩ := Option.isSome_iff_exists.mp h5
      cases neg with
      | true => exact (sb_ntin g.k (g.tb _ _ er) er (g.gl h3) (nm1 h4).1 (okE a g h6).ve).of fun l m => by rw [evalE] <;> rfl
      | false => exact (sb_tin g.k (g.tb _ _ er) er (g.gl h3) (nm1 h4).1 (okE a g h6).ve).of fun l m => by rw [evalE] <;> rfl
    · cases h
  | .tix t a, X, W, wx, sc, fb, e, g, h => by
    unfold chkE at h
    split at h
    · simp only [Bool.and_eq_true] at h
      obtain ⟨⟨⟨⟨⟨h1, h2⟩, h3⟩, h4⟩, h5⟩, h6⟩ := h
      have e1 := of_decide_eq_true h1
      subst e1
      obtain ⟨rows, er⟩ := Option.isSome_iff_exists.mp h4
      exact SB.plain g.k ((se_tix g.k (g.tb _ _ er) er (g.gl h2) (nm1 h3).1 (ix_plain (by simpa using h5)) (okE a g h6).ve).of fun l m => by rw [evalE] <;> rfl) (true_plain rfl)
    · cases h
  | .lenO a, X, W, wx, sc, fb, e, g, h => by
    unfold chkE at h
    split at h
    · simp only [Bool.and_eq_true] at h
      obtain ⟨⟨⟨⟨h1, h2⟩, h3⟩, h4⟩, h5⟩ := h
      have e1 := of_decide_eq_true h1
      subst e1
      exact SB.plain g.k ((se_lenO g.k (meth_all g) (g.room.mono (by omega)) (g.gl h2) (g.fac.free _ h3) (star_cons (by simpa using h4)) (okE a g h5).ve).of fun l m => by rw [evalE] <;> rfl) (true_plain rfl)
    · cases h
  | .listO a, X, W, wx, sc, fb, e, g, h => by
    unfold chkE at h
    split at h
    · simp only [Bool.and_eq_true] at h
      obtain ⟨⟨⟨⟨h1, h2⟩, h3⟩, h4⟩, h5⟩ := h
      have e1 := of_decide_eq_true h1
      subst e1
      exact SB.plain g.k ((se_listO g.calm g.k (meth_all g) g.it (g.room.mono (by omega)) (g.gl h2) (g.fac.free _ h3) (star_cons (by simpa using h4)) (okE a g h5).ve).of fun l m => by rw [evalE] <;> rfl) (true_plain rfl)
    · cases h
  | .join o a, X, W, wx, sc, fb, e, g, h => by
    unfold chkE at h
    split at h
    · rename_i x g0 apos y pos
      simp only [Bool.and_eq_true] at h
      obtain ⟨⟨⟨⟨⟨h1, h2⟩, h3⟩, h4⟩, h5⟩, h6⟩ := h
      have e1 := of_decide_eq_true h1
      subst e1
      have h4' : isStar y = false := by simpa using h4
      exact SB.plain g.k ((se_join g.k (base_plain h2) h3 (star_cons h4') (okE o g h5).ve (okE a g h6).ve).of fun l m => by rw [evalE] <;> rfl) (true_plain rfl)
    · cases h
  | .sm1 f o a, X, W, wx, sc, fb, e, g, h => by
    unfold chkE at h
    split at h
    · rename_i x g0 apos y pos
      simp only [Bool.and_eq_true] at h
      obtain ⟨⟨⟨⟨⟨h1, h2⟩, h3⟩, h4⟩, h5⟩, h6⟩ := h
      have e1 := of_decide_eq_true h1
      subst e1
      have h4' : isStar y = false := by simpa using h4
      exact SB.plain g.k ((se_sm1 g.k (base_plain h2) h3 (star_cons h4') (okE o g h5).ve (okE a g h6).ve).of fun l m => by rw [evalE] <;> rfl) (true_plain rfl)
    · cases h
  | .bm o f es, X, W, wx, sc, fb, e, g, h => by
    unfold chkE at h
    split at h
    · simp only [Bool.and_eq_true] at h
      obtain ⟨⟨⟨⟨⟨h1, h2⟩, h3⟩, h4⟩, h5⟩, h6⟩ := h
      have e1 := of_decide_eq_true h1
      subst e1
      obtain ⟨ha, h0⟩ := okL es g h6
      exact SB.plain g.k ((bm_ok g.k h2 h3 h4 (okE o g h5).ve ha h0).of fun l m => by rw [evalE] <;> rfl) (true_plain rfl)
    · cases h
  | .isi a ty, X, W, wx, sc, fb, e, g, h => by
    unfold chkE at h
    split at h
    · simp only [Bool.and_eq_true] at h
      obtain ⟨⟨⟨⟨⟨⟨⟨⟨h1, h2⟩, h3⟩, h4⟩, h5⟩, h6⟩, h7⟩, h8⟩, h9⟩ := h
      have e1 := of_decide_eq_true h1
      have e2 := of_decide_eq_true h2
      subst e1 e2
      exact SB.plain g.k ((se_isi g.k ty (of_decide_eq_true h3) (g.gl h4) (g.fac.free _ h6) (g.gl h5) (g.fac.free _ h7) (star_cons (by simpa using h8)) (okE a g h9).ve).of fun l m => by rw [evalE] <;> rfl) (true_plain rfl)
    · cases h
  | .meth o f es, X, W, wx, sc, fb, e, g, h => by
    unfold chkE at h
    split at h
    · simp only [Bool.and_eq_true] at h
      obtain ⟨⟨⟨⟨⟨h1, h2⟩, h3⟩, h4⟩, h5⟩, h6⟩ := h
      have e1 := of_decide_eq_true h1
      subst e1
      obtain ⟨ha, h0⟩ := okL es g h6
      exact SB.plain g.k ((meth_ok g h2 h3 h4 (okE o g h5).ve ha h0).of fun l m => by rw [evalE] <;> rfl) (true_plain rfl)
    · cases h
  | .attr o f, X, W, wx, sc, fb, e, g, h => by
    unfold chkE at h
    split at h
    · simp only [Bool.and_eq_true] at h
      obtain ⟨⟨h1, h2⟩, h3⟩ := h
      have e1 := of_decide_eq_true h1
      subst e1
      exact SB.plain g.k ((se_attrP g.k (base_plain h2) (prop_all g) (g.room.mono (by omega)) (okE o g h3).ve).of fun l m => by rw [evalE] <;> rfl) (true_plain rfl)
    · cases h
  | .idx a i, X, W, wx, sc, fb, e, g, h => by
    unfold chkE at h
    split at h
    · simp only [Bool.and_eq_true] at h
      obtain ⟨⟨h1, h2⟩, h3⟩ := h
      exact SB.plain g.k ((se_idx g.k (okE a g h2).ve (okE i g h3).ve (ix_plain (by simpa using h1))).of fun l m => by rw [evalE] <;> rfl) (true_plain rfl)
    · cases h
  | .sliceB a lo hi, X, W, wx, sc, fb, e, g, h => by
    unfold chkE at h
    split at h
    · simp only [Bool.and_eq_true] at h
      obtain ⟨⟨h1, h2⟩, h3⟩ := h
      exact SB.plain g.k ((se_sliceB g.k (okE a g h1).ve (okE lo g h2).ve (okE hi g h3).ve).of fun l m => by rw [evalE] <;> rfl) (true_plain rfl)
    · cases h
  | .sliceL a lo, X, W, wx, sc, fb, e, g, h => by
    unfold chkE at h
    split at h
    · simp only [Bool.and_eq_true] at h
      exact SB.plain g.k ((se_sliceL g.k (okE a g h.1).ve (okE lo g h.2).ve).of fun l m => by rw [evalE] <;> rfl) (true_plain rfl)
    · cases h
  | .sliceH a hi, X, W, wx, sc, fb, e, g, h => by
    unfold chkE at h
    split at h
    · simp only [Bool.and_eq_true] at h
      exact SB.plain g.k ((se_sliceH g.k (okE a g h.1).ve (okE hi g h.2).ve).of fun l m => by rw [evalE] <;> rfl) (true_plain rfl)
    · cases h
  | .comp elt t it, X, W, wx, sc, fb, e, g, h => by
    unfold chkE at h
    split at h
    · simp only [Bool.and_eq_true] at h
      obtain ⟨⟨⟨⟨⟨h1, h2⟩, h3⟩, h4⟩, h5⟩, h6⟩ := h
      rw [of_decide_eq_true h1]
      exact SB.plain g.k ((compS_of g (by simpa using h2) h3 (okI it g h4) h5 fun X' g' => okE elt g' h6).se.of fun l m => by rw [evalE] <;> rfl) (true_plain rfl)
    · cases h
  | .compIf elt t it c, X, W, wx, sc, fb, e, g, h => by
    unfold chkE at h
    split at h
    · simp only [Bool.and_eq_true] at h
      obtain ⟨⟨⟨⟨⟨⟨h1, h2⟩, h3⟩, h4⟩, h5⟩, h6⟩, h7⟩ := h
      rw [of_decide_eq_true h1]
      exact SB.plain g.k ((compSIf_of g (by simpa using h2) h3 (okI it g h4) h5 (fun X' g' => okE c g' h6) fun X' g' => okE elt g' h7).se.of fun l m => by rw [evalE] <;> rfl) (true_plain rfl)
    · cases h
theorem okL : ∀ (x : List E) {X : Cx} {W : Wd} {wx : WX} {sc : Scope} {fb : PySem.Str → Bool} {es : List Expr}, Good P fre T d X W wx N sc fb → chkL P fre N sc fb es x = true → SA X W wx es (evalL P (callN P d) x) ∧ (es = [] → evalL P (callN P d) x = fun _ m => .ok [] m)
  | [], X, W, wx, sc, fb, es, g, h => by
    unfold chkL at h
    cases es with
    | cons _ _ => cases h
    | nil => exact ⟨sa_nil.of fun l m => by rw [evalL], fun _ => by funext l m; rw [evalL]⟩
  | x :: xs, X, W, wx, sc, fb, es, g, h => by
    unfold chkL at h
    cases es with
    | nil => cases h
    | cons e es =>
      simp only [Bool.and_eq_true] at h
      obtain ⟨⟨h1, h2⟩, h3⟩ := h
      exact ⟨(sa_cons (okE x g h2).ve (okL xs g h3).1 (star_cons (by simpa using h1))).of fun l m => by rw [evalL], fun q => by cases q⟩
theorem okI : ∀ (x : Py.It) {X : Cx} {W : Wd} {wx : WX} {sc : Scope} {fb : PySem.Str → Bool} {tg e : Expr}, Good P fre T d X W wx N sc fb → chkI P fre N sc fb tg e x = true → SI X W wx tg e (evalI P (callN P d) x)
  | .seq a, X, W, wx, sc, fb, tg, e, g, h => by
    unfold chkI at h
    exact (si_seq g.k (okE a g h).ve).of fun l m => by rw [evalI] <;> rfl
  | .own a, X, W, wx, sc, fb, tg, e, g, h => by
    unfold chkI at h
    exact (si_own g.k g.it (g.room.mono (by omega)) (okE a g h).ve).of fun l m => by rw [evalI] <;> rfl
  | .range1 a, X, W, wx, sc, fb, tg, e, g, h => by
    unfold chkI at h
    split at h
    · rename_i y pos
      simp only [Bool.and_eq_true] at h
      obtain ⟨⟨⟨⟨h1, h2⟩, h3⟩, h4⟩, h5⟩ := h
      have e1 := of_decide_eq_true h1
      subst e1
      have h4' : isStar y = false := by simpa using h4
      exact (si_range1 (g.gl h2) (g.fac.free _ h3) (star_cons h4') (star_cons h4') (okE a g h5).ve).of fun l m => by rw [evalI] <;> rfl
    · cases h
  | .range2 a b, X, W, wx, sc, fb, tg, e, g, h => by
    unfold chkI at h
    split at h
    · rename_i y z pos
      simp only [Bool.and_eq_true] at h
      obtain ⟨⟨⟨⟨⟨⟨h1, h2⟩, h3⟩, h4⟩, h5⟩, h6⟩, h7⟩ := h
      have e1 := of_decide_eq_true h1
      subst e1
      have h4' : isStar y = false := by simpa using h4
      have h5' : isStar z = false := by simpa using h5
      exact (si_range2 (g.gl h2) (g.fac.free _ h3) ((star_cons h4').trans (by rw [star_cons h5']; rfl)) (star_cons h5') (star_cons h4') (star_cons h5') (okE a g h6).ve (okE b g h7).ve).of fun l m => by rw [evalI] <;> rfl
    · cases h
  | .vals d, X, W, wx, sc, fb, tg, e, g, h => by
    unfold chkI at h
    split at h
    · simp only [Bool.and_eq_true] at h
      obtain ⟨⟨⟨h1, h2⟩, h3⟩, h4⟩ := h
      have e1 := of_decide_eq_true h1
      subst e1
      exact (si_vals (base_plain h2) h3 (okE d g h4).ve).of fun l m => by rw [evalI] <;> rfl
    · cases h
  | .zip a b, X, W, wx, sc, fb, tg, e, g, h => by
    unfold chkI at h
    split at h
    · split at h
      · rename_i y z pos
        simp only [Bool.and_eq_true] at h
        obtain ⟨⟨⟨⟨⟨⟨h1, h2⟩, h3⟩, h4⟩, h5⟩, h6⟩, h7⟩ := h
        have e1 := of_decide_eq_true h1
        subst e1
        have h4' : isStar y = false := by simpa using h4
        have h5' : isStar z = false := by simpa using h5
        exact (si_zip g.k (g.gl h2) (g.fac.free _ h3) (star_cons h4') (star_cons h5') (okE a g h6).ve (okE b g h7).ve).of fun l m => by rw [evalI] <;> rfl
      · cases h
    · cases h
end
end
end Py

namespace Py
open PySem PySem.Spec PyProof.Rows L2

def isTupD : Expr → Bool
  | .Tuple _ _ _ => true
  | .List _ _ => true
  | _ => false
/-- no store of names in a changed order: the target is no display, or the value is none -/
def noSwap (tg v : Expr) : Bool := !isTupD tg || !isTupD v
def deadOk : Stmt → Bool := fun _ => true
def swapNm (sc : Scope) (y : PySem.Str) (py : Pos) (e : Expr) : Bool := (match sc.kind with | .function => true | _ => false) && (match sc.names.lookup y with | some .local => true | _ => false) && (match e with
  | .ListComp _ _ scope pos => (py.line == pos.line) && !(scope.names.any fun (n, k) => n == y && (k == .local || k == .cell))
  | _ => false)
def noLoc (sc : Scope) (y : PySem.Str) : Bool := match sc.names.lookup y with
  | some .cell => true
  | _ => false
def isLComp : E → Bool
  | .comp _ _ _ => true
  | .compIf _ _ _ _ => true
  | _ => false
mutual
def chkS (P : Prog) (fre N : List PySem.Str) (sc : Scope) (fb : PySem.Str → Bool) : Stmt → S → Bool
  | st, .pass => match st with
    | .Pass _ => true
    | .Expr (.Constant (.str _) _ _) _ => true
    | _ => false
  | st, .expr e => match st with
    | .Expr x _ => !isCompr x && chkE P fre N sc fb x e
    | _ => false
  | st, .set i e => match st with
    | .Assign [.Name x py] v _ => decide (N[i]? = some x) && isLoc sc fb x && chkE P fre N sc fb v e && (!isCompr v || (swapNm sc x py v && isLComp e || noLoc sc x))
    | _ => false
  | st, .asg t e => match st with
    | .Assign [tg] v _ => isTupD tg && noSwap tg v && !isCompr v && chkT N sc fb tg t && chkE P fre N sc fb v e
    | _ => false
  | st, .aug i o e => match st with
    | .AugAssign (.Name x _) op v _ => decide (op = opOf o) && decide (N[i]? = some x) && isLoc sc fb x && chkE P fre N sc fb v e
    | _ => false
  | st, .setAttr o f e => match st with
    | .Assign [.Attribute x g _] v _ => decide (g = f) && chkE P fre N sc fb x o && chkE P fre N sc fb v e
    | _ => false
  | st, .setIdx o i e => match st with
    | .Assign [.Subscript x y _] v _ => !isSlice y && chkE P fre N sc fb x o && chkE P fre N sc fb y i && chkE P fre N sc fb v e
    | _ => false
  | st, .setD o i e => match st with
    | .Assign [.Subscript x y _] v _ => chkE P fre N sc fb x o && chkE P fre N sc fb y i && chkE P fre N sc fb v e
    | _ => false
  | st, .del o i => match st with
    | .Delete [.Subscript x y _] _ => chkE P fre N sc fb x o && chkE P fre N sc fb y i
    | _ => false
  | st, .lock _ s => chkS P fre N sc fb st s
  | st, .ret none => match st with
    | .Return none _ => true
    | _ => false
  | st, .ret (some e) => match st with
    | .Return (some x) _ => chkE P fre N sc fb x e
    | _ => false
  | st, .ifs c a b => match st with
    | .If x as bs _ => chkE P fre N sc fb x c && chkB P fre N sc fb as a && chkB P fre N sc fb bs b
    | _ => false
  | st, .whl c b => match st with
    | .While x bs [] _ => chkE P fre N sc fb x c && chkB P fre N sc fb bs b
    | _ => false
  | st, .fr t it b => match st with
    | .For tg iter bs [] _ => !isSetD iter && chkT N sc fb tg t && chkI P fre N sc fb tg iter it && chkB P fre N sc fb bs b
    | _ => false
  | st, .brk => match st with
    | .Break _ => true
    | _ => false
  | st, .cnt => match st with
    | .Continue _ => true
    | _ => false
  | st, .dead => deadOk st
def chkB (P : Prog) (fre N : List PySem.Str) (sc : Scope) (fb : PySem.Str → Bool) : List Stmt → List S → Bool
  | xs, [] => xs.isEmpty
  | xs, s :: ss => match xs with
    | x :: xs' => chkS P fre N sc fb x s && chkB P fre N sc fb xs' ss
    | [] => false
end
end Py

namespace Py
open PySem PySem.Spec PyProof.Rows L2

section
variable {P : Prog} {fre : List PySem.Str} {T : Tbl} {d : Nat} {N : List PySem.Str}
theorem okC {x : E} {X : Cx} {W : Wd} {wx : WX} {sc : Scope} {fb : PySem.Str → Bool} {e : Expr} (hl : isLComp x = true) (g : Good P fre T d X W wx N sc fb) (h : chkE P fre N sc fb e x = true) : CompS X W wx e (evalE P (callN P d) x) := by
  cases x with
  | comp elt t it =>
    unfold chkE at h
    split at h
    · simp only [Bool.and_eq_true] at h
      obtain ⟨⟨⟨⟨⟨h1, h2⟩, h3⟩, h4⟩, h5⟩, h6⟩ := h
      rw [of_decide_eq_true h1]
      exact (compS_of g (by simpa using h2) h3 (okI it g h4) h5 fun X' g' => okE elt g' h6).of fun l m => by rw [evalE] <;> rfl
    · cases h
  | compIf elt t it c =>
    unfold chkE at h
    split at h
    · simp only [Bool.and_eq_true] at h
      obtain ⟨⟨⟨⟨⟨⟨h1, h2⟩, h3⟩, h4⟩, h5⟩, h6⟩, h7⟩ := h
      rw [of_decide_eq_true h1]
      exact (compSIf_of g (by simpa using h2) h3 (okI it g h4) h5 (fun X' g' => okE c g' h6) fun X' g' => okE elt g' h7).of fun l m => by rw [evalE] <;> rfl
    · cases h
  | _ => cases hl
end
section
variable {X : Cx} {W : Wd} {wx : WX} {st : Stmt} {sts : List Stmt} {e : Expr} {f : Py.Loc → Mem → Res Val} {g g' : Py.Loc → Mem → Flow} {pos pos' : Pos}
theorem SS.of (h : SS X W wx st g) (q : ∀ l m, g' l m = g l m) : SS X W wx st g' := by
  have e : g' = g := by funext l m; exact q l m
  rw [e]; exact h
theorem SSs.of (h : SSs X W wx sts g) (q : ∀ l m, g' l m = g l m) : SSs X W wx sts g' := by
  have e : g' = g := by funext l m; exact q l m
  rw [e]; exact h
theorem ss_setC {i : Nat} {x : PySem.Str} (hi : X.N[i]? = some x) (hx : X.env.scope.names.lookup x = some .local) (h : CompS X W wx e f) (hs : swapsWith e (some (.Name x pos')) pos.line X.env = pure true) :
    SS X W wx (.Assign [.Name x pos'] e pos) (fun l m => bindF l (f l m) fun v m1 => .nx (l.set i (some v)) m1) := by
  obtain ⟨t, p, ps, q⟩ := h
  refine ⟨_, ps hi hx hs, fun σ H ρ l m D ss s po => ?_⟩
  exact q σ H ρ l m _ ss s ((PostF.bind ss po).mono fun u H1 ⟨x, m1, ρ1, A, p1⟩ => p1 ρ1 H1 _ Ext.refl A.sim (A.ss.set A.rep i))
theorem ss_doc {s : PySem.Str} {j : Nat} {p1 p2 : Pos} : SS X W wx (.Expr (.Constant (.str s) j p1) p2) (fun l m => .nx l m) := ⟨_, ps_doc, fun σ H ρ l m D ss s p => p ρ H σ Ext.refl s ss⟩
end
section
variable {P : Prog} {fre : List PySem.Str} {T : Tbl} {d : Nat} {N : List PySem.Str}
theorem noswap {tg v : Expr} {env : Env} (h1 : isTupD tg = true) (h2 : noSwap tg v = true) : swappedStores [tg] v env = pure none ∧ (assignEach [tg] env).map (·.2) = [assign tg env] := by
  unfold noSwap at h2
  rw [h1] at h2
  constructor
  · cases tg <;> first | (cases h1; done) | (cases v <;> first | rfl | cases h2)
  · cases tg <;> first | rfl | cases h1
theorem swaps_at {env : Env} (e tg : Expr) (n : Nat) (h : ∀ x p, tg ≠ .Name x p) : swapsWith e (some tg) n env = pure false := by
  cases e <;> first
    | rfl
    | (cases tg <;> first | rfl | exact absurd rfl (h _ _))
mutual
theorem okS' : ∀ (x : S) {X : Cx} {W : Wd} {wx : WX} {sc : Scope} {fb : PySem.Str → Bool} {st : Stmt}, Good P fre T d X W wx N sc fb → PassesOwn (model X.prog X.w) X.A X.env X.xe → chkS P fre N sc fb st x = true → SS X W wx st (execS P (callN P d) x)
  | .pass, X, W, wx, sc, fb, st, g, hp, h => by
    unfold chkS at h
    split at h
    · exact ss_pass.of fun l m => by rw [execS]
    · exact ss_doc.of fun l m => by rw [execS]
    · cases h
  | .expr e, X, W, wx, sc, fb, st, g, hp, h => by
    unfold chkS at h
    split at h
    · rw [Bool.and_eq_true] at h
      exact (ss_expr (okE e g h.2).ve (swaps_plain (by simpa using h.1))).of fun l m => by rw [execS] <;> rfl
    · cases h
  | .set i e, X, W, wx, sc, fb, st, g, hp, h => by
    unfold chkS at h
    split at h
    · rename_i x py v pos
      simp only [Bool.and_eq_true, Bool.or_eq_true] at h
      obtain ⟨⟨⟨h1, h2⟩, h3⟩, h4⟩ := h
      have hi : X.N[i]? = some x := by rw [g.nm]; exact of_decide_eq_true h1
      rcases h4 with h4 | ⟨h4, h5⟩ | h4
      · exact (ss_set g.nd hi (g.loc h2).1 (okE e g h3).ve (swaps_plain (by simpa using h4)) (hf := (g.loc h2).2)).of fun l m => by rw [execS] <;> rfl
      · unfold swapNm at h4
        simp only [Bool.and_eq_true] at h4
        obtain ⟨⟨h6, h7⟩, h8⟩ := h4
        have hk : X.env.scope.kind = .function := by
          rw [g.sc]
          split at h6
          · assumption
          · cases h6
        have hy : X.env.scope.names.lookup x = some .local := by
          rw [g.sc]
          split at h7
          · assumption
          · cases h7
        split at h8
        · rename_i e' gs scope pos2
          rw [Bool.and_eq_true] at h8
          exact (ss_setC hi hy (okC h5 g h3) (sw_true hk hy h8.1 (by simpa using h8.2))).of fun l m => by rw [execS] <;> rfl
        · cases h8
      · have hy : X.env.scope.names.lookup x = some .cell := by
          rw [g.sc]
          unfold noLoc at h4
          split at h4
          · assumption
          · cases h4
        exact (ss_set g.nd hi (g.loc h2).1 (okE e g h3).ve (swaps_cell hy) (hf := (g.loc h2).2)).of fun l m => by rw [execS] <;> rfl
    · cases h
  | .asg t e, X, W, wx, sc, fb, st, g, hp, h => by
    unfold chkS at h
    split at h
    · simp only [Bool.and_eq_true] at h
      obtain ⟨⟨⟨⟨h1, h2⟩, h3⟩, h4⟩, h5⟩ := h
      obtain ⟨q1, q2⟩ := noswap (env := X.env) h1 h2
      exact (ss_asg (okT g.k g.calm g.nm g.nd (fun x hx => g.loc hx) t _ h4) (okE e g h5).ve (swaps_plain (by simpa using h3)) q1 q2).of fun l m => by rw [execS] <;> rfl
    · cases h
  | .aug i o e, X, W, wx, sc, fb, st, g, hp, h => by
    unfold chkS at h
    split at h
    · simp only [Bool.and_eq_true] at h
      obtain ⟨⟨⟨h1, h2⟩, h3⟩, h4⟩ := h
      have e1 := of_decide_eq_true h1
      subst e1
      exact (ss_aug o g.nd (by rw [g.nm]; exact of_decide_eq_true h2) (g.loc h3).1 (g.loc h3).2 (okE e g h4).ve).of fun l m => by rw [execS] <;> rfl
    · cases h
  | .setAttr o f e, X, W, wx, sc, fb, st, g, hp, h => by
    unfold chkS at h
    split at h
    · simp only [Bool.and_eq_true] at h
      obtain ⟨⟨h1, h3⟩, h4⟩ := h
      have e1 := of_decide_eq_true h1
      subst e1
      rename_i x pp v pos
      exact (ss_setAttr (P := P) g.k (fun c hc => g.fac.noat c _ hc) (okE o g h3).ve (okE e g h4).ve (swaps_at _ _ _ (fun _ _ z => nomatch z))).of fun l m => by rw [execS] <;> rfl
    · cases h
  | .setIdx o i e, X, W, wx, sc, fb, st, g, hp, h => by
    unfold chkS at h
    split at h
    · rename_i x y py v pos
      simp only [Bool.and_eq_true] at h
      obtain ⟨⟨⟨h1, h3⟩, h4⟩, h5⟩ := h
      have h1' : isSlice y = false := by simpa using h1
      have hs : ∀ n, swapsWithSole [.Subscript x y py] v n X.env = pure false := fun n => swaps_at (env := X.env) v (.Subscript x y py) n (fun _ _ z => nomatch z)
      refine (ss_setIdx (okE o g h3).ve (okE i g h4).ve (okE e g h5).ve (fun v => ?_) (hs _) rfl rfl).of fun l m => by rw [execS] <;> rfl
      cases y <;> first | rfl | cases h1'
    · cases h
  | .setD o i e, X, W, wx, sc, fb, st, g, hp, h => by
    unfold chkS at h
    split at h
    · rename_i x y py v pos
      simp only [Bool.and_eq_true] at h
      obtain ⟨⟨h3, h4⟩, h5⟩ := h
      have hu : X.A.units + 1 < cLine := by have := g.units; omega
      exact (ss_dput hu (okE o g h3).ve (okE i g h4).ve (okE e g h5).ve (swaps_at (env := X.env) v (.Subscript x y py) _ (fun _ _ z => nomatch z))).of fun l m => by rw [execS] <;> rfl
    · cases h
  | .del o i, X, W, wx, sc, fb, st, g, hp, h => by
    unfold chkS at h
    split at h
    · simp only [Bool.and_eq_true] at h
      have hu : X.A.units + 1 < cLine := by have := g.units; omega
      exact (ss_ddel hu (okE o g h.1).ve (okE i g h.2).ve).of fun l m => by rw [execS] <;> rfl
    · cases h
  | .lock e s, X, W, wx, sc, fb, st, g, hp, h => by
    unfold chkS at h
    exact (ss_lock (f := evalE P (callN P d) e) trivial (okS' s g hp h)).of fun l m => by rw [execS] <;> rfl
  | .ret none, X, W, wx, sc, fb, st, g, hp, h => by
    unfold chkS at h
    split at h
    · exact ss_retN.of fun l m => by rw [execS]
    · cases h
  | .ret (some e), X, W, wx, sc, fb, st, g, hp, h => by
    unfold chkS at h
    split at h
    · exact (ss_ret (okE e g h).ve).of fun l m => by rw [execS] <;> rfl
    · cases h
  | .ifs c a b, X, W, wx, sc, fb, st, g, hp, h => by
    unfold chkS at h
    split at h
    · simp only [Bool.and_eq_true] at h
      obtain ⟨⟨h1, h2⟩, h3⟩ := h
      exact (ss_if (okE c g h1).te (okB a g hp h2) (okB b g hp h3)).of fun l m => by rw [execS] <;> rfl
    · cases h
  | .whl c b, X, W, wx, sc, fb, st, g, hp, h => by
    unfold chkS at h
    split at h
    · simp only [Bool.and_eq_true] at h
      exact (ss_while WMAX hp (okE c g h.1).te (okB b g hp h.2)).of fun l m => by rw [execS] <;> rfl
    · cases h
  | .fr t it b, X, W, wx, sc, fb, st, g, hp, h => by
    unfold chkS at h
    split at h
    · simp only [Bool.and_eq_true] at h
      obtain ⟨⟨⟨h1, h2⟩, h3⟩, h4⟩ := h
      exact (ss_for hp g.calm (okI it g h3) (okT g.k g.calm g.nm g.nd (fun x hx => g.loc hx) t _ h2) (okB b g hp h4) (fold_plain (by simpa using h1))).of fun l m => by rw [execS] <;> rfl
    · cases h
  | .brk, X, W, wx, sc, fb, st, g, hp, h => by
    unfold chkS at h
    split at h
    · exact ss_brk.of fun l m => by rw [execS]
    · cases h
  | .cnt, X, W, wx, sc, fb, st, g, hp, h => by
    unfold chkS at h
    split at h
    · exact ss_cnt.of fun l m => by rw [execS]
    · cases h
  | .dead, X, W, wx, sc, fb, st, g, hp, h => ss_dead.of fun l m => by rw [execS]
theorem okB : ∀ (x : List S) {X : Cx} {W : Wd} {wx : WX} {sc : Scope} {fb : PySem.Str → Bool} {sts : List Stmt}, Good P fre T d X W wx N sc fb → PassesOwn (model X.prog X.w) X.A X.env X.xe → chkB P fre N sc fb sts x = true → SSs X W wx sts (execB P (callN P d) x)
  | [], X, W, wx, sc, fb, sts, g, hp, h => by
    unfold chkB at h
    cases sts with
    | cons _ _ => cases h
    | nil => exact sss_nil.of fun l m => by rw [execB]
  | x :: xs, X, W, wx, sc, fb, sts, g, hp, h => by
    unfold chkB at h
    cases sts with
    | nil => cases h
    | cons st sts =>
      simp only [Bool.and_eq_true] at h
      exact (sss_cons (okS' x g hp h.1) (okB xs g hp h.2)).of fun l m => by rw [execB]
end
end
end Py

namespace Py
open PySem PySem.Spec PyProof.Rows L2

/-! ### the head's facts, and where the defs stand -/
inductive At where
  | fn (x : PySem.Str)
  | mth (c m : PySem.Str)
  | prp (c m : PySem.Str)
  | clm (c m : PySem.Str)
  deriving DecidableEq
def recA (K : PySem.W.Frag) (p : Addr) (T : String) : Addr := match PySem.W.recIn K p T with
  | some (.ref g :: _) => g
  | _ => 0
def At.ad (K : PySem.W.Frag) : At → Addr
  | .fn x => He.ga K x
  | .mth c m => He.ma K (He.ga K c) m
  | .prp c m => recA K (He.ma K (He.ga K c) m) "property"
  | .clm c m => recA K (He.ma K (He.ga K c) m) "classmethod"
/-! values that the module's names stand for -/
inductive Cv where
  | int (i : Int)
  | str (s : List Nat)
def Cv.val : Cv → Val
  | .int i => .int i
  | .str s => .str s
def Cv.v : Cv → V
  | .int i => .int i
  | .str s => .str (sv s)
def Cv.ok : Cv → Bool
  | .int _ => true
  | .str s => okS s
inductive Gv where
  | none
  | int (i : Int)
  | str (s : List Nat)
  | tup (xs : List Cv)
  | kt (xs : List Int)
def Gv.val : Gv → Val
  | .none => .none
  | .int i => .int i
  | .str s => .str s
  | .tup xs => .tup (xs.map Cv.val)
  | .kt xs => .kt xs
def tupA (K : PySem.W.Frag) (a : Addr) (vs : List V) : Bool := match K.lookup a with
  | some ⟨.type c, _, .seq its _, _⟩ => decide (c = "tuple") && (decide (its.size ≤ sizeLine) && He.relAll vs its.toList)
  | _ => false
theorem tupA_ok {K : PySem.W.Frag} {a : Addr} {vs : List V} (h : tupA K a vs = true) (H : Hp) : SqT K H a vs := by
  unfold tupA at h
  cases q : K.lookup a with
  | none => rw [q] at h; cases h
  | some o =>
    obtain ⟨oc, od, dt, osl⟩ := o
    rw [q] at h
    cases oc with
    | type c =>
      cases dt with
      | seq its n =>
        simp only [Bool.and_eq_true] at h
        obtain ⟨h1, h2, h3⟩ := h
        exact .inr ⟨_, its, n, q, congrArg Value.type (of_decide_eq_true h1), rfl, of_decide_eq_true h2, He.relAll_ok h3⟩
      | _ => cases h
    | _ => cases dt <;> cases h
def relG (K : PySem.W.Frag) (u : Value) (g : Gv) : Bool := match g with
  | .none => (match u with
    | .none => true
    | _ => false)
  | .int i => (match u with
    | .int j _ => decide (j = i)
    | _ => false)
  | .str s => (match u with
    | .str y _ => decide (y = sv s) && okS s
    | _ => false)
  | .tup xs => (match u with
    | .ref a => tupA K a (xs.map Cv.v) && (xs.all Cv.ok && !keyTag (xs.map Cv.val))
    | _ => false)
  | .kt xs => (match u with
    | .ref a => tupA K a (xs.map V.int)
    | _ => false)
theorem cv_rep {K : PySem.W.Frag} {ρ : Nat → Addr} {n : Nat} {H : Hp} : ∀ {xs : List Cv}, xs.all Cv.ok = true → RepL K ρ n H (xs.map Cv.val) (xs.map Cv.v)
  | [], _ => .nil
  | x :: xs, h => by
    rw [List.all_cons, Bool.and_eq_true] at h
    refine .cons ?_ (cv_rep h.2)
    cases x with
    | int i => exact .int i
    | str s => exact .str s h.1
theorem relG_ok {K : PySem.W.Frag} {u : Value} {g : Gv} (h : relG K u g = true) : ∃ v, RelV v u ∧ ∀ ρ n H, Rep K ρ n H g.val v := by
  cases g with
  | none =>
    cases u with
    | none => exact ⟨.non, rfl, fun _ _ _ => .none⟩
    | _ => cases h
  | int i =>
    cases u with
    | int j t =>
      have e : j = i := of_decide_eq_true h
      subst e
      exact ⟨.int j, ⟨t, rfl⟩, fun _ _ _ => .int j⟩
    | _ => cases h
  | str s =>
    cases u with
    | str y t =>
      obtain ⟨h1, h2⟩ := He.ba h
      have e : y = sv s := of_decide_eq_true h1
      subst e
      exact ⟨.str (sv s), ⟨t, rfl⟩, fun _ _ _ => .str s h2⟩
    | _ => cases h
  | tup xs =>
    cases u with
    | ref a =>
      obtain ⟨h1, h2⟩ := He.ba h
      obtain ⟨h2, h3⟩ := He.ba h2
      exact ⟨.ref a, rfl, fun ρ n H => .tup (.inr ⟨tupA_ok h1 H, by simpa using h3⟩) (cv_rep h2)⟩
    | _ => cases h
  | kt xs =>
    cases u with
    | ref a => exact ⟨.ref a, rfl, fun ρ n H => .kt fun H' => tupA_ok h H'⟩
    | _ => cases h
inductive Fy where
  | fa (f : He.Fa)
  | prop (c f : PySem.Str)
  | gv (x : PySem.Str) (g : Gv)
  | row (t : PySem.Str) (k : List Nat) (g : Gv)
def eqV (a b : Option (Option Value)) : Bool := decide (a = b)
def Fy.ok (K : PySem.W.Frag) : Fy → Bool
  | .fa f => f.ok K
  | .gv x g => (match PySem.W.nsIn K mainGlobals x with
    | some (some u) => relG K u g
    | _ => false)
  | .row t k g => (match PySem.W.nsIn K (He.ga K t) (sv k) with
    | some (some u) => relG K u g
    | _ => false)
  | .prop c f => eqV (PySem.W.findIn K (.ref (He.ga K c)) f) (some (some (.ref (He.ma K (He.ga K c) f)))) && (eqV (PySem.W.specialIn K (.ref (He.ma K (He.ga K c) f)) "__get__") (some (some (.builtin "property.__get__"))) &&
      (decide (PySem.W.takesIn K (.ref (He.ma K (He.ga K c) f)) = some true) && (match PySem.W.recIn K (He.ma K (He.ga K c) f) "property" with
        | some (.ref _ :: _) => true
        | _ => false)))
theorem propOf_ok {K : PySem.W.Frag} {c f : PySem.Str} (h : (Fy.prop c f).ok K = true) : PropOf K (He.ga K c) f (He.ma K (He.ga K c) f) (At.ad K (.prp c f)) := by
  unfold Fy.ok at h
  simp only [Bool.and_eq_true] at h
  obtain ⟨h1, h2, h3, h4⟩ := h
  refine ⟨of_decide_eq_true h1, of_decide_eq_true h2, of_decide_eq_true h3, ?_⟩
  split at h4
  · rename_i g rest e
    refine ⟨rest, ?_⟩
    have : At.ad K (.prp c f) = g := by
      show recA K _ "property" = g
      unfold recA
      rw [e]
    rw [this]; exact e
  · cases h4
structure DefY where
  at_ : At
  name : PySem.Str
  qual : PySem.Str
  params : Arguments
  body : List Stmt
  scope : Scope
  /-- the keyword-only parameter, its default -/
  kw : Option (PySem.Str × Gv)
def fnY (K : PySem.W.Frag) (a : Addr) : He.FnW := match K.lookup a with
  | some ⟨_, _, .func fd, _⟩ => some (fd.name, fd.qualname, fd.params, fd.body, fd.scope, fd.globals, fd.closure, fd.builtins)
  | _ => none
def DefY.val (d : DefY) : He.FnW := some (d.name, d.qual, d.params, .stmts d.body, d.scope, mainGlobals, [], builtinsNs)
def kwG (K : PySem.W.Frag) (kV : Value) (kw : Option (PySem.Str × Gv)) : Bool := match kw with
  | none => true
  | some q => (match kV with
    | .ref D => (match PySem.W.nsIn K D q.1 with
      | some (some u) => relG K u q.2
      | _ => false)
    | _ => false)
/-- the keyword-only defaults as the layer has them -/
def KwsOk (K : PySem.W.Frag) (kw : Option (PySem.Str × Gv)) (kws : List (PySem.Str × V)) : Prop := match kw with
  | none => kws = []
  | some q => ∃ v, kws = [(q.1, v)] ∧ ∀ ρ n H, Rep K ρ n H q.2.val v
theorem kwG_ok {K : PySem.W.Frag} {kV : Value} {kw : Option (PySem.Str × Gv)} (h : kwG K kV kw = true) : ∃ kws, KwdV K kV kws ∧ KwsOk K kw kws := by
  cases kw with
  | none => exact ⟨[], .inl rfl, rfl⟩
  | some q =>
    cases kV with
    | ref D =>
      have h1 : (match PySem.W.nsIn K D q.1 with
        | some (some u) => relG K u q.2
        | _ => false) = true := h
      split at h1
      · rename_i u e
        obtain ⟨v, r1, r2⟩ := relG_ok h1
        refine ⟨[(q.1, v)], .inr ⟨D, rfl, fun z hz => ?_⟩, v, rfl, r2⟩
        rw [List.mem_singleton.mp hz]
        exact ⟨u, e, r1⟩
      · cases h1
    | _ => cases h
def DefY.ok (K : PySem.W.Frag) (d : DefY) : Bool := PySem.W.keepIn K (.ref (d.at_.ad K)) && (match K.lookup (d.at_.ad K) with
  | some ⟨_, _, .func fd, _⟩ => PySem.W.codeIn K fd.code d.qual && (He.dflB K fd.defaults [] && kwG K fd.kwdefaults d.kw)
  | _ => false)
theorem DefY.funD {K : PySem.W.Frag} {d : DefY} (e : fnY K (d.at_.ad K) = d.val) (c : d.ok K = true) : ∃ fd kws, FunD K d.name d.qual d.params d.body d.scope [] kws (d.at_.ad K) fd ∧ KwsOk K d.kw kws := by
  obtain ⟨kp, c2⟩ := He.ba c
  unfold fnY at e
  cases q : K.lookup (d.at_.ad K) with
  | none => rw [q] at c2; cases c2
  | some o =>
    obtain ⟨oc, od, dt, osl⟩ := o
    rw [q] at c2 e
    cases dt with
    | func fd =>
      obtain ⟨n1, n2, n3, n4, n5, n6, n7, n8, n9, n10, n11, n12, n13, n14, n15⟩ := fd
      simp only [DefY.val, Option.some.injEq, Prod.mk.injEq] at e
      obtain ⟨h1, h2, h3, h4, h5, h6, h7, h8⟩ := e
      subst h1 h2 h3 h4 h5 h6 h7 h8
      obtain ⟨k1, k2⟩ := He.ba c2
      obtain ⟨k3, k4⟩ := He.ba k2
      obtain ⟨kws, k5, k6⟩ := kwG_ok k4
      exact ⟨_, kws, ⟨⟨oc, od, n8, n9, n10, n11, n12, n13, n14, osl, rfl, q, k1, He.dflB_ok k3, k5⟩, kp⟩, k6⟩
    | _ => cases c2
theorem gv_ok {K : PySem.W.Frag} {x : PySem.Str} {g : Gv} (h : (Fy.gv x g).ok K = true) : ∃ u v, PySem.W.nsIn K mainGlobals x = some (some u) ∧ RelV v u ∧ ∀ ρ n H, Rep K ρ n H g.val v := by
  have h' : (match PySem.W.nsIn K mainGlobals x with
    | some (some u) => relG K u g
    | _ => false) = true := h
  split at h'
  · rename_i u e
    obtain ⟨v, h1, h2⟩ := relG_ok h'
    exact ⟨u, v, e, h1, h2⟩
  · cases h'
theorem row_ok {K : PySem.W.Frag} {t : PySem.Str} {k : List Nat} {g : Gv} (h : (Fy.row t k g).ok K = true) : ∃ u v, PySem.W.nsIn K (He.ga K t) (sv k) = some (some u) ∧ RelV v u ∧ ∀ ρ n H, Rep K ρ n H g.val v := by
  have h' : (match PySem.W.nsIn K (He.ga K t) (sv k) with
    | some (some u) => relG K u g
    | _ => false) = true := h
  split at h'
  · rename_i u e
    obtain ⟨v, h1, h2⟩ := relG_ok h'
    exact ⟨u, v, e, h1, h2⟩
  · cases h'
abbrev Tbs : Type := List (PySem.Str × List (List Nat × Gv))
/-- a name that is no key of the table -/
theorem dic_none {K : PySem.W.Frag} {P : Params} {a : Addr} {ks : List PySem.Str} {z : PySem.Str} (h : He.dicW K a = some (He.keysIn P ks)) (hz : z ∉ ks) : PySem.W.nsIn K a z = some none := by
  unfold He.dicW at h
  cases q : K.lookup a with
  | none => rw [q] at h; cases h
  | some o =>
    obtain ⟨oc, od, dt, osl⟩ := o
    rw [q] at h
    cases oc with
    | type c =>
      cases od with
      | none =>
        cases dt with
        | dict es n =>
          simp only at h
          split at h
          · have hm := Option.some.inj h
            have key : ∀ e ∈ es.toList, ∃ k t, k ∈ ks ∧ e.key = .str k t := fun e he => by
              have : He.keyOf e ∈ He.keysIn P ks := by rw [← hm]; exact List.mem_map.mpr ⟨e, he, rfl⟩
              obtain ⟨k, hk, ek⟩ := List.mem_map.mp this
              unfold He.keyOf at ek
              split at ek
              · rename_i x t ex
                obtain ⟨h5, _⟩ := Prod.mk.inj (Option.some.inj ek)
                exact ⟨x, t, by rw [← h5]; exact hk, ex⟩
              · cases ek
            unfold PySem.W.nsIn
            rw [q]
            have f1 : es.toList.find? (·.key.isStr z) = none := List.find?_eq_none.mpr fun e he => by
              obtain ⟨k, t, hk, ek⟩ := key e he
              rw [ek]
              show ¬ ((k == z) = true)
              intro y
              rw [eq_of_beq y] at hk
              exact hz hk
            have f2 : es.toList.any (·.refKey) = false := List.any_eq_false.mpr fun e he => by
              obtain ⟨k, t, hk, ek⟩ := key e he
              unfold DictEntry.refKey
              rw [ek]
              simp
            simp only [f1, f2]
            rfl
          · cases h
        | _ => cases h
      | some b => cases dt <;> cases h
    | _ => cases od <;> cases dt <;> cases h
abbrev AlY : Type := He.AlD × List (Option (List (Option (PySem.Str × Int))))
def obsY (fa : List Fy) (fn : List DefY) (ts : Tbs) (K : PySem.W.Frag) : AlY := (((fa.all fun f => f.ok K) && fn.all fun d => d.ok K, fn.map fun d => fnY K (d.at_.ad K)), ts.map fun t => He.dicW K (He.ga K t.1))
def valY (fn : List DefY) (ts : Tbs) (w : World) : AlY := ((true, fn.map DefY.val), ts.map fun t => some (He.keysIn w.params (t.2.map fun r => sv r.1)))
def SaysY (fa : List Fy) (fn : List DefY) (ts : Tbs) (w : World) (K : PySem.W.Frag) : Prop := obsY fa fn ts K = valY fn ts w
def obsYG (n : Nat) (fa : List Fy) (fn : List DefY) (ts : Tbs) (g : Addr → Option Obj) : AlY := obsY fa fn ts (He.frG g (He.asD g n))
def hookY (n : Nat) (fa : List Fy) (fn : List DefY) (ts : Tbs) : PySem.W.Hook where
  α := AlY
  obs := fun s => obsYG n fa fn ts s.heap.get?
  val := fun w => valY fn ts w
  says := fun w h => ∃ K : PySem.W.Frag, K.In h ∧ SaysY fa fn ts w K
  of := fun _ _ e => ⟨_, He.frG_in, e⟩
  keeps := fun _ _ _ ⟨K, hK, c⟩ k => ⟨K, PySem.W.Frag.In.keeps hK k, c⟩
theorem obsYG_eq {n : Nat} {fa : List Fy} {fn : List DefY} {ts : Tbs} {g : Addr → Option Obj} {s : Shared} (h : ∀ a, g a = s.heap.get? a) : obsYG n fa fn ts g = (hookY n fa fn ts).obs s := by
  have e : g = s.heap.get? := funext h
  rw [e]; rfl
section
variable {fa : List Fy} {fn : List DefY} {ts : Tbs} {w : World} {K : PySem.W.Frag}
theorem SaysY.fact (c : SaysY fa fn ts w K) {f : Fy} (h : f ∈ fa) : f.ok K = true := by
  have c1 := (He.ba (show ((fa.all fun f => f.ok K) && fn.all fun d => d.ok K) = true from congrArg (fun z : AlY => z.1.1) c)).1
  exact List.all_eq_true.mp c1 f h
theorem SaysY.def_ (c : SaysY fa fn ts w K) {d : DefY} (h : d ∈ fn) : ∃ fd kws, FunD K d.name d.qual d.params d.body d.scope [] kws (d.at_.ad K) fd ∧ KwsOk K d.kw kws := by
  have c2 := (He.ba (show ((fa.all fun f => f.ok K) && fn.all fun d => d.ok K) = true from congrArg (fun z : AlY => z.1.1) c)).2
  have e : fn.map (fun d => fnY K (d.at_.ad K)) = fn.map DefY.val := congrArg (fun z : AlY => z.1.2) c
  have e2 : fnY K (d.at_.ad K) = d.val := List.map_inj_left.mp e d h
  exact DefY.funD e2 (List.all_eq_true.mp c2 d h)
theorem SaysY.tab (c : SaysY fa fn ts w K) {t : PySem.Str × List (List Nat × Gv)} (h : t ∈ ts) : He.dicW K (He.ga K t.1) = some (He.keysIn w.params (t.2.map fun r => sv r.1)) := by
  have e : ts.map (fun t => He.dicW K (He.ga K t.1)) = ts.map fun t => some (He.keysIn w.params (t.2.map fun r => sv r.1)) := congrArg (fun z : AlY => z.2) c
  exact List.map_inj_left.mp e t h
end
end Py

namespace Py
open PySem PySem.Spec PyProof.Rows L2

/-! ### a def keeps its promise -/
theorem start_sim {K : PySem.W.Frag} {ρ : Nat → Addr} {n : Nat} {H : Hp} {xs : List Val} {vs : List V} (N : List PySem.Str) (r : RepL K ρ n H xs vs) : SimS K ρ n H (Py.start N.length xs) (L2.start N vs) := by
  unfold Py.start L2.start
  refine ⟨by simp [r.length], fun i v h => ?_⟩
  by_cases hi : i < xs.length
  · rw [List.getElem?_append_left (by simpa using hi), List.getElem?_map] at h
    cases e : xs[i]? with
    | none => rw [e] at h; cases h
    | some y =>
      rw [e] at h
      cases h
      obtain ⟨u, h1, h2⟩ := r.get e
      refine ⟨u, ?_, h2⟩
      rw [List.getElem?_append_left (by rw [List.length_map, ← r.length]; exact hi), List.getElem?_map, h1]
      rfl
  · rw [List.getElem?_append_right (by simpa using hi), List.getElem?_replicate] at h
    split at h <;> cases h
theorem ret_post {W : Wd} {E : XK} {ρ : Nat → Addr} {n : Nat} {H : Hp} {r : Flow} {Q : VK} (p : Post W (fun cls d _ H => E cls d H) [] ρ n H (retOf r) Q) : PostF W (fun cls d _ H => E cls d H) ρ n H r { nx := fun _ H' => Q .non H', rt := Q } := by
  cases r with
  | nx l m => exact fun ρ' H' σ' a b c => p ρ' H' .non a b .none
  | ret v m => exact p
  | exc l c fs m => exact fun ρ' H' σ' cls d a b _ e => p ρ' H' cls d a b e
  | brk l m => exact p.elim
  | cnt l m => exact p.elim
  | err => exact p.elim
section
variable {P : Prog} {fre : List PySem.Str} {T : Tbl} {d : Nat} {N ps : List PySem.Str} {W : Wd} {prog : Program} {w : World} {mg : PySem.Str → Option Value} {base : Heap} {x qual key : PySem.Str} {params : Arguments} {body : List Stmt} {scope : Scope} {f : Addr} {fd : FuncData} {fn : Fn} {kws : List (PySem.Str × V)}
theorem def_ok (F : FunD W.K x qual params body scope [] kws f fd) (S : FnScope N ps scope) (hp : fn.np = ps.length) (hs : fn.ns = N.length) (hk : P.ent key = some (.fn fn) ∨ P.ent key = some (.mth fn) ∨ P.ent key = some (.kw fn))
    (hc : chkB P fre N scope (fun _ => true) body fn.body = true) (fac : Facts P fre W mg T) (lv : ∀ j, j ≤ d → Lv P W T prog w mg base j) (it : ∀ c f, P.iter c = some f → IterP prog w W.K mg base W c f) (tb : ∀ t rows, P.tab t = some rows → TabOk w W.K mg t rows) :
    FnOk prog w W.K mg base (L2.CX prog w) (5 * (d + 1) + 1) f fd ps (spC W (callN P (d + 1)) key) := by
  have run : ∀ vs m, callN P (d + 1) key vs m = if vs.length = fn.np then gc m (retOf (execB P (callN P d) fn.body (Py.start fn.ns vs) m)) else .err := fun vs m => by
    rw [callN]
    rcases hk with e | e | e <;> rw [e]
  refine F.ok S (fun vs H Q E h => ?_) fun cdv A outer s H vs Q E hr h => ?_
  · obtain ⟨ρ, m, xs, sm, r, p⟩ := h
    rw [run] at p
    split at p
    · rename_i e
      rw [← r.length, e, hp]
    · exact p.elim
  · obtain ⟨ρ, m, xs, sm, r, p⟩ := h
    rw [run] at p
    split at p
    · have p1 := ret_post (gc_ok sm p)
      have g : Good P fre T d (cxOf (L2.CX prog w) prog w W.K mg base N qual scope f cdv A outer s H E) W (fun cls d _ H => E cls d H) N scope (fun _ => true) :=
        ⟨rfl, rfl, hr, rfl, S.nd, rfl, takes_of rfl rfl rfl rfl, fun _ _ => rfl, fac, lv, it, tb⟩
      obtain ⟨t, pt, q⟩ := (okB fn.body g (passes_of rfl) hc).ex
      refine ⟨t, pt, q _ H ρ _ m _ (start_sim N r) sm ?_⟩
      rw [← hs]
      exact p1
    · exact p.elim
theorem lv_zero : Lv P W T prog w mg base 0 := fun x f _ =>
  have no : ∀ vs H Q E, ¬ spC W (callN P 0) x vs H Q E := fun vs H Q E ⟨ρ, m, xs, _, _, p⟩ => p
  ⟨fun vs H Q E h => absurd h (no vs H Q E), fun A outer s H args us vs Q E _ _ _ _ h => absurd h (no vs H Q E)⟩
end

/-! ### the table of a program -/
structure Df where
  at_ : At
  key : PySem.Str
  name : PySem.Str
  qual : PySem.Str
  st : Stmt
  N : List PySem.Str
  ps : List PySem.Str
  fn : Fn
  kw : Option (PySem.Str × Gv) := none
def At.isM : At → Bool
  | .fn _ => false
  | _ => true
def Df.isM (d : Df) : Bool := d.at_.isM
def Df.dd (d : Df) : DefY := ⟨d.at_, d.name, d.qual, defArgs d.st, defBody d.st, defScope d.st, d.kw⟩
/-- what Lean's kernel sees of a def -/
structure DfOk (d : Df) : Prop where
  bnd : d.kw = none → ∀ (K : PySem.W.Frag) (f : Addr) (fd : FuncData), FunD K d.name d.qual (defArgs d.st) (defBody d.st) (defScope d.st) [] [] f fd → Binds K fd d.ps []
  kwb : ∀ x g, d.kw = some (x, g) → ∀ (K : PySem.W.Frag) (f : Addr) (fd : FuncData) (v : V), FunD K d.name d.qual (defArgs d.st) (defBody d.st) (defScope d.st) [] [(x, v)] f fd →
    (∃ ds, Vals [v] ds ∧ Binds K fd d.ps ds) ∧ KBn K fd d.ps (d.ps.length - 1) [x] (fun us ws => us ++ ws) (fun vs zs => vs ++ zs)
  scp : FnScope d.N d.ps (defScope d.st)
  np : d.fn.np = d.ps.length
  ns : d.fn.ns = d.N.length
structure Tab where
  defs : List Df
  /-- a class, its fields -/
  clss : List (PySem.Str × List PySem.Str)
  /-- a class, a method's name, its key -/
  mths : List ((PySem.Str × PySem.Str) × PySem.Str)
  /-- properties -/
  prs : List ((PySem.Str × PySem.Str) × PySem.Str)
  /-- a class, the field that its __iter__ walks -/
  its : List (PySem.Str × PySem.Str)
  glo : List (PySem.Str × Gv)
  /-- tables -/
  tbs : Tbs
  fre : List PySem.Str
def initKey (c : PySem.Str) : PySem.Str := c ++ (".__init__" : PySem.Str)
def findD (ds : List Df) (x : PySem.Str) : Option Df := match ds with
  | [] => none
  | d :: r => if d.key = x then some d else findD r x
def kwD (t : Tab) (x : PySem.Str) : Bool := match findD t.defs x with
  | some d => d.kw.isSome
  | none => false
def Tab.prog (t : Tab) : Prog where
  ent x := match findD t.defs x with
    | some d => if d.kw.isSome then some (.kw d.fn) else if d.isM then some (.mth d.fn) else some (.fn d.fn)
    | none => match t.clss.lookup x with
      | some _ => if kwD t (initKey x) then some (.clsK (initKey x)) else some (.cls (initKey x))
      | none => none
  kwn x := match findD t.defs x with
    | some d => d.kw.map fun q => (q.1, q.2.val)
    | none => none
  meth c m := t.mths.lookup (c, m)
  prop c m := t.prs.lookup (c, m)
  iter c := t.its.lookup c
  tab x := (t.tbs.lookup x).map fun rows => rows.map fun r => (r.1, r.2.val)
  flds c := match t.clss.lookup c with
    | some fs => fs
    | none => []
  glob x := (t.glo.lookup x).map Gv.val
def Tab.dd (t : Tab) : List DefY := t.defs.map Df.dd
def Tab.fh (t : Tab) : List He.Fa :=
  ((t.defs.filter fun d => !d.isM).map fun d => He.Fa.glo d.key) ++ (t.clss.flatMap fun c => [He.Fa.glo c.1, He.Fa.cls c.1, He.Fa.mkr c.1] ++ c.2.map fun f => He.Fa.noat c.1 f) ++
    (t.mths.map fun q => He.Fa.meth q.1.1 q.1.2) ++ t.tbs.map (fun g => He.Fa.glo g.1) ++ t.fre.map fun x => He.Fa.free x
def Tab.fa (t : Tab) : List Fy := t.fh.map Fy.fa ++ (t.prs.map fun q => Fy.prop q.1.1 q.1.2) ++ (t.glo.map fun g => Fy.gv g.1 g.2) ++ t.tbs.flatMap fun q => q.2.map fun r => Fy.row q.1 r.1 r.2
def Tab.chk (t : Tab) : Bool :=
  (t.defs.all fun d => chkB t.prog t.fre d.N (defScope d.st) (fun _ => true) (defBody d.st) d.fn.body) &&
  (t.defs.all fun d => d.isM || decide (d.at_ = .fn d.key)) &&
  (t.clss.all fun c => (match findD t.defs (initKey c.1) with
    | some d => decide (d.at_ = .mth c.1 "__init__")
    | none => false)) &&
  (t.mths.all fun q => (match findD t.defs q.2 with
    | some d => decide (d.at_ = .mth q.1.1 q.1.2) && !d.kw.isSome
    | none => false)) &&
  (t.prs.all fun q => (match findD t.defs q.2 with
    | some d => decide (d.at_ = .prp q.1.1 q.1.2) && !d.kw.isSome
    | none => false)) &&
  (t.its.all fun c => (match t.mths.lookup (c.1, ("__iter__" : PySem.Str)) with
    | some q => (match findD t.defs q with
      | some d => decide (d.N[0]? = some ("self" : PySem.Str)) && decide (d.ps = [("self" : PySem.Str)]) && chkIter t.fre (defScope d.st) (defBody d.st) c.2
      | none => false)
    | none => false))
theorem findD_mem {ds : List Df} {x : PySem.Str} {d : Df} (h : findD ds x = some d) : d ∈ ds ∧ d.key = x := by
  induction ds with
  | nil => cases h
  | cons e r ih =>
    unfold findD at h
    split at h
    · cases h; exact ⟨List.mem_cons_self, by assumption⟩
    · exact ⟨List.mem_cons_of_mem _ (ih h).1, (ih h).2⟩
end Py

namespace Py
open PySem PySem.Spec PyProof.Rows L2

theorem says_fact {t : Tab} {w : World} {K : PySem.W.Frag} (c : SaysY t.fa t.dd t.tbs w K) {f : He.Fa} (h : f ∈ t.fh) : f.ok K = true := by
  have : Fy.fa f ∈ t.fa := by
    unfold Tab.fa
    exact List.mem_append_left _ (List.mem_append_left _ (List.mem_append_left _ (List.mem_map.mpr ⟨f, h, rfl⟩)))
  exact c.fact this
theorem says_def {t : Tab} {fa : List Fy} {ts : Tbs} {w : World} {K : PySem.W.Frag} (c : SaysY fa t.dd ts w K) {d : Df} (h : d ∈ t.defs) : ∃ fd kws, FunD K d.name d.qual (defArgs d.st) (defBody d.st) (defScope d.st) [] kws (d.at_.ad K) fd ∧ KwsOk K d.kw kws := by
  have e : d.dd ∈ t.dd := by
    unfold Tab.dd
    exact List.mem_map.mpr ⟨d, h, rfl⟩
  exact c.def_ e
theorem lookup_mem {α β : Type} [BEq α] [LawfulBEq α] {l : List (α × β)} {a : α} {b : β} (h : l.lookup a = some b) : (a, b) ∈ l := by
  induction l with
  | nil => cases h
  | cons p r ih =>
    obtain ⟨x, y⟩ := p
    rw [List.lookup_cons] at h
    split at h
    · rename_i e
      have e' : a = x := by simpa using e
      cases h
      rw [e']; exact List.mem_cons_self
    · exact List.mem_cons_of_mem _ (ih h)
def wd (K : PySem.W.Frag) : Wd := ⟨K, fun c => He.ga K c⟩
section
variable {t : Tab} {w : World} {K : PySem.W.Frag} {h : Heap} {mg : PySem.Str → Option Value}
theorem facts_of (hc : t.chk = true) (ok : ∀ d ∈ t.defs, DfOk d) (ne : t.defs ≠ []) (X : K.In h) (G : h.Ns mainGlobals mg) (c : SaysY t.fa t.dd t.tbs w K) :
    ∃ T : Tbl, Facts t.prog t.fre (wd K) mg T ∧ ∀ x d, findD t.defs x = some d → (∃ kws, FunD K d.name d.qual (defArgs d.st) (defBody d.st) (defScope d.st) [] kws (T.ad x) (T.fd x) ∧ KwsOk K d.kw kws) ∧ T.ps x = d.ps := by
  obtain ⟨d0, h0⟩ : ∃ d, d ∈ t.defs := by
    cases e : t.defs with
    | nil => exact absurd e ne
    | cons d r => exact ⟨d, List.mem_cons_self⟩
  obtain ⟨fd0, _⟩ := says_def c h0
  have hx : ∀ x, ∃ fd, ∀ d, findD t.defs x = some d → ∃ kws, FunD K d.name d.qual (defArgs d.st) (defBody d.st) (defScope d.st) [] kws (d.at_.ad K) fd ∧ KwsOk K d.kw kws := fun x => by
    cases e : findD t.defs x with
    | none => exact ⟨fd0, fun d q => by cases q⟩
    | some d =>
      obtain ⟨fd, F⟩ := says_def c (findD_mem e).1
      exact ⟨fd, fun d' q => by cases q; exact F⟩
  obtain ⟨fdf, hfd⟩ := Classical.axiomOfChoice hx
  unfold Tab.chk at hc
  simp only [Bool.and_eq_true, List.all_eq_true] at hc
  obtain ⟨⟨⟨⟨⟨c1, c2⟩, c3⟩, c4⟩, cp⟩, ci⟩ := hc
  refine ⟨⟨fun x => match findD t.defs x with
    | some d => d.at_.ad K
    | none => 0, fdf, fun x => match findD t.defs x with
    | some d => d.ps
    | none => []⟩, ⟨?_, ?_, ?_, ?_, ?_, ?_, ?_, ?_, ?_, ?_⟩, ?_⟩
  · intro x f e
    unfold Tab.prog at e
    simp only at e
    cases q : findD t.defs x with
    | none => rw [q] at e; simp only at e; split at e <;> (try split at e) <;> cases e
    | some d =>
      rw [q] at e
      simp only at e
      split at e
      · cases e
      · rename_i hkw
        split at e
        · cases e
        rename_i hm
        obtain ⟨hd, hk⟩ := findD_mem q
        have a1 : d.at_ = .fn d.key := by
          have := c2 d hd
          rw [Bool.or_eq_true] at this
          rcases this with z | z
          · exact absurd z hm
          · exact of_decide_eq_true z
        obtain ⟨kws, F, ek⟩ := hfd x d q
        have hnk : d.kw = none := by simpa using hkw
        rw [hnk] at ek
        have ek : kws = [] := ek
        subst ek
        have g : He.Fa.glo d.key ∈ t.fh := by
          unfold Tab.fh
          simp only [List.mem_append, List.mem_map, List.mem_filter]
          exact .inl (.inl (.inl (.inl ⟨d, ⟨hd, by simpa using hm⟩, rfl⟩)))
        refine ⟨?_, ?_, ?_⟩
        · have := He.glo_ok X G (says_fact c g)
          simp only [q]
          rw [← hk, this, a1]; rfl
        · simp only [q]; exact F.kp
        · simp only [q]; exact (ok d hd).bnd hnk K _ _ F
  · intro x i e
    unfold Tab.prog at e
    simp only at e
    cases q : findD t.defs x with
    | some d => rw [q] at e; simp only at e; split at e <;> (try split at e) <;> cases e
    | none =>
      rw [q] at e
      simp only at e
      split at e
      · rename_i fs el
        split at e
        · cases e
        rename_i hkw
        cases e
        have hm := lookup_mem el
        have g : ∀ y ∈ [He.Fa.glo x, He.Fa.cls x, He.Fa.mkr x], y ∈ t.fh := fun y hy => by
          unfold Tab.fh
          simp only [List.mem_append, List.mem_map, List.mem_filter, List.mem_flatMap]
          exact .inl (.inl (.inl (.inr ⟨_, hm, .inl hy⟩)))
        have k3 := c3 _ hm
        simp only at k3
        split at k3
        · rename_i d ed
          have a1 := of_decide_eq_true k3
          refine ⟨He.glo_ok X G (says_fact c (g _ (by simp))), He.cls_ok (says_fact c (g _ (by simp))), ?_, ?_⟩
          · simp only [ed]
            rw [a1]
            exact He.mkr_ok (says_fact c (g _ (by simp)))
          · refine ⟨d.fn, ?_⟩
            unfold Tab.prog
            simp only [ed]
            have : d.isM = true := by unfold Df.isM; rw [a1]; rfl
            unfold kwD at hkw
            simp only [ed] at hkw
            rw [if_neg hkw, if_pos this]
        · cases k3
      · cases e
  · intro x f e
    unfold Tab.prog at e
    simp only at e
    cases q : findD t.defs x with
    | none => rw [q] at e; simp only at e; split at e <;> (try split at e) <;> cases e
    | some d =>
      rw [q] at e
      simp only at e
      split at e
      · cases e
      · rename_i hkw
        obtain ⟨kws, F, ek⟩ := hfd x d q
        have hnk : d.kw = none := by simpa using hkw
        rw [hnk] at ek
        have ek : kws = [] := ek
        subst ek
        simp only [q]; exact (ok d (findD_mem q).1).bnd hnk K _ _ F
  · intro x i e
    unfold Tab.prog at e
    simp only at e
    cases q : findD t.defs x with
    | some d => rw [q] at e; simp only at e; split at e <;> (try split at e) <;> cases e
    | none =>
      rw [q] at e
      simp only at e
      split at e
      · rename_i fs el
        split at e
        · rename_i hkw
          cases e
          have hm := lookup_mem el
          have g : ∀ y ∈ [He.Fa.glo x, He.Fa.cls x, He.Fa.mkr x], y ∈ t.fh := fun y hy => by
            unfold Tab.fh
            simp only [List.mem_append, List.mem_map, List.mem_filter, List.mem_flatMap]
            exact .inl (.inl (.inl (.inr ⟨_, hm, .inl hy⟩)))
          have k3 := c3 _ hm
          simp only at k3
          split at k3
          · rename_i d ed
            have a1 := of_decide_eq_true k3
            refine ⟨He.glo_ok X G (says_fact c (g _ (by simp))), He.cls_ok (says_fact c (g _ (by simp))), ?_, ?_⟩
            · simp only [ed]
              rw [a1]
              exact He.mkr_ok (says_fact c (g _ (by simp)))
            · refine ⟨d.fn, ?_, ?_⟩
              · unfold Tab.prog
                unfold kwD at hkw
                simp only [ed] at hkw ⊢
                rw [if_pos hkw]
              · simp only [ed]; exact (ok d (findD_mem ed).1).np
          · cases k3
        · cases e
      · cases e
  · intro x f e
    unfold Tab.prog at e
    simp only at e
    cases q : findD t.defs x with
    | none => rw [q] at e; simp only at e; split at e <;> (try split at e) <;> cases e
    | some d =>
      rw [q] at e
      simp only at e
      split at e
      · rename_i hkw
        obtain ⟨kws, F, ek⟩ := hfd x d q
        obtain ⟨⟨kx, kg⟩, hk⟩ := Option.isSome_iff_exists.mp hkw
        rw [hk] at ek
        obtain ⟨v, ev, rv⟩ := (show ∃ v, kws = [(kx, v)] ∧ ∀ ρ n H, Rep K ρ n H kg.val v from ek)
        subst ev
        obtain ⟨⟨ds, b1, b2⟩, b3⟩ := (ok d (findD_mem q).1).kwb kx kg hk K _ _ v F
        refine ⟨kx, kg.val, ?_, ?_⟩
        · unfold Tab.prog; simp only [q, hk]; rfl
        · simp only [q]
          exact ⟨⟨v, ds, b1, b2, rv⟩, b3⟩
      · split at e <;> cases e
  · intro x m q e
    have hm : ((x, m), q) ∈ t.mths := lookup_mem e
    have k4 := c4 _ hm
    simp only at k4
    split at k4
    · rename_i d ed
      rw [Bool.and_eq_true] at k4
      have hnk : ¬ (d.kw.isSome = true) := by have := k4.2; simpa using this
      have a1 := of_decide_eq_true k4.1
      have g : He.Fa.meth x m ∈ t.fh := by
        unfold Tab.fh
        simp only [List.mem_append, List.mem_map, List.mem_filter, List.mem_flatMap]
        exact .inl (.inl (.inr ⟨_, hm, rfl⟩))
      refine ⟨?_, d.fn, ?_⟩
      · simp only [ed]
        rw [a1]
        exact He.meth_ok (says_fact c g)
      · unfold Tab.prog
        simp only [ed]
        have : d.isM = true := by unfold Df.isM; rw [a1]; rfl
        rw [if_neg hnk, if_pos this]
    · cases k4
  · intro x m q e
    have hm : ((x, m), q) ∈ t.prs := lookup_mem e
    have k4 := cp _ hm
    simp only at k4
    split at k4
    · rename_i d ed
      rw [Bool.and_eq_true] at k4
      have hnk : ¬ (d.kw.isSome = true) := by have := k4.2; simpa using this
      have a1 := of_decide_eq_true k4.1
      have g : Fy.prop x m ∈ t.fa := by
        unfold Tab.fa
        exact List.mem_append_left _ (List.mem_append_left _ (List.mem_append_right _ (List.mem_map.mpr ⟨_, hm, rfl⟩)))
      refine ⟨⟨He.ma K (He.ga K x) m, ?_⟩, d.fn, ?_⟩
      · simp only [ed]
        rw [a1]
        exact propOf_ok (c.fact g)
      · unfold Tab.prog
        simp only [ed]
        have : d.isM = true := by unfold Df.isM; rw [a1]; rfl
        rw [if_neg hnk, if_pos this]
    · cases k4
  · intro x f e
    unfold Tab.prog at e
    simp only at e
    split at e
    · rename_i fs el
      have hm := lookup_mem el
      have hf : f ∈ fs := by simpa using e
      have g : He.Fa.noat x f ∈ t.fh := by
        unfold Tab.fh
        simp only [List.mem_append, List.mem_map, List.mem_filter, List.mem_flatMap]
        exact .inl (.inl (.inl (.inr ⟨_, hm, .inr ⟨f, hf, rfl⟩⟩)))
      exact He.noat_ok (says_fact c g)
    · simp at e
  · intro x e
    have hx : x ∈ t.fre := by simpa using e
    have g : He.Fa.free x ∈ t.fh := by
      unfold Tab.fh
      simp only [List.mem_append, List.mem_map, List.mem_filter, List.mem_flatMap]
      exact .inr ⟨x, hx, rfl⟩
    exact He.free_ok X G (says_fact c g)
  · intro x v e
    unfold Tab.prog at e
    simp only at e
    obtain ⟨gv, e1, e2⟩ := Option.map_eq_some_iff.mp e
    have hm := lookup_mem e1
    have g : Fy.gv x gv ∈ t.fa := by
      unfold Tab.fa
      exact List.mem_append_left _ (List.mem_append_right _ (List.mem_map.mpr ⟨_, hm, rfl⟩))
    obtain ⟨u, v0, q1, q2, q3⟩ := gv_ok (c.fact g)
    exact ⟨v0, u, PySem.W.mg_of X G q1, q2, by rw [← e2]; exact q3⟩
  · intro x d q
    exact ⟨by simp only [q]; exact hfd x d q, by simp only [q]⟩
theorem lookup_map {α β γ : Type} [BEq α] [LawfulBEq α] (f : β → γ) : ∀ (l : List (α × β)) (a : α), (l.map fun r => (r.1, f r.2)).lookup a = (l.lookup a).map f
  | [], _ => rfl
  | (x, y) :: r, a => by
    rw [List.map_cons, List.lookup_cons, List.lookup_cons]
    cases a == x
    · exact lookup_map f r a
    · rfl
theorem lookup_none {α β : Type} [BEq α] [LawfulBEq α] {l : List (α × β)} {a : α} (h : l.lookup a = none) : ∀ p ∈ l, p.1 ≠ a := fun p hp e => by
  induction l with
  | nil => cases hp
  | cons q r ih =>
    obtain ⟨x, y⟩ := q
    rw [List.lookup_cons] at h
    cases z : a == x with
    | true => rw [z] at h; cases h
    | false =>
      rw [z] at h
      rcases List.mem_cons.mp hp with e' | e'
      · subst e'
        rw [← e] at z
        simp at z
      · exact ih h e'
/-- the tables -/
theorem tabs_of (X : K.In h) (G : h.Ns mainGlobals mg) (c : SaysY t.fa t.dd t.tbs w K) : ∀ x rows, t.prog.tab x = some rows → TabOk w K mg x rows := by
  intro x rows e
  obtain ⟨rs, e1, e2⟩ := Option.map_eq_some_iff.mp e
  have hm : (x, rs) ∈ t.tbs := lookup_mem e1
  have g : He.Fa.glo x ∈ t.fh := by
    unfold Tab.fh
    simp only [List.mem_append, List.mem_map]
    exact .inl (.inr ⟨_, hm, rfl⟩)
  have ht := c.tab hm
  obtain ⟨es, n, D⟩ := He.dicW_ok ht
  subst e2
  refine ⟨He.ga K x, es, n, He.glo_ok X G (says_fact c g), D, fun s hs => ?_, fun s v hs => ?_⟩
  · rw [lookup_map] at hs
    have hn : rs.lookup s = none := by simpa using hs
    refine dic_none ht fun hk => ?_
    obtain ⟨r, hr, er⟩ := List.mem_map.mp hk
    exact lookup_none hn r hr (sv_inj er)
  · rw [lookup_map] at hs
    obtain ⟨gv, h1, h2⟩ := Option.map_eq_some_iff.mp hs
    have hr : (s, gv) ∈ rs := lookup_mem h1
    have gg : Fy.row x s gv ∈ t.fa := by
      unfold Tab.fa
      exact List.mem_append_right _ (List.mem_flatMap.mpr ⟨_, hm, List.mem_map.mpr ⟨_, hr, rfl⟩⟩)
    obtain ⟨u, v0, q1, q2, q3⟩ := row_ok (c.fact gg)
    exact ⟨u, v0, q1, q2, by rw [← h2]; exact q3⟩
/-- .. an __iter__ too -/
theorem its_of {T : Tbl} {prog : Program} {w : World} {base : Heap} (hc : t.chk = true) (ok : ∀ d ∈ t.defs, DfOk d) (fac : Facts t.prog t.fre (wd K) mg T)
    (hF : ∀ x d, findD t.defs x = some d → (∃ kws, FunD K d.name d.qual (defArgs d.st) (defBody d.st) (defScope d.st) [] kws (T.ad x) (T.fd x) ∧ KwsOk K d.kw kws) ∧ T.ps x = d.ps) : ∀ c f, t.prog.iter c = some f → IterP prog w K mg base (wd K) c f := by
  intro c f h
  have hm : (c, f) ∈ t.its := lookup_mem h
  unfold Tab.chk at hc
  simp only [Bool.and_eq_true, List.all_eq_true] at hc
  have k := hc.2 _ hm
  simp only at k
  split at k
  · rename_i q eq
    split at k
    · rename_i d ed
      simp only [Bool.and_eq_true] at k
      obtain ⟨⟨k1, k2⟩, k3⟩ := k
      have k1 := of_decide_eq_true k1
      have k2 := of_decide_eq_true k2
      obtain ⟨⟨kws, F, _⟩, e2⟩ := hF q d ed
      obtain ⟨M, fn, e3⟩ := fac.meth c _ q eq
      have O := ok d (findD_mem ed).1
      have S := O.scp
      have B := fac.mth q fn e3
      rw [e2, k2] at B
      rw [k2] at S
      exact ⟨_, _, M.at_, M.fn, B, fnIt_ok F S k1 k3 fac.free⟩
    · cases k
  · cases k
/-- every def keeps its promise, however deep the calls -/
theorem lv_all {T : Tbl} {prog : Program} {w : World} {base : Heap} (hc : t.chk = true) (ok : ∀ d ∈ t.defs, DfOk d) (fac : Facts t.prog t.fre (wd K) mg T)
    (hF : ∀ x d, findD t.defs x = some d → (∃ kws, FunD K d.name d.qual (defArgs d.st) (defBody d.st) (defScope d.st) [] kws (T.ad x) (T.fd x) ∧ KwsOk K d.kw kws) ∧ T.ps x = d.ps)
    (it : ∀ c f, t.prog.iter c = some f → IterP prog w K mg base (wd K) c f) (tb : ∀ x rows, t.prog.tab x = some rows → TabOk w K mg x rows) : ∀ n, ∀ j, j ≤ n → Lv t.prog (wd K) T prog w mg base j
  | 0, j, hj => by
    have : j = 0 := by omega
    rw [this]; exact lv_zero
  | n + 1, j, hj => by
    by_cases e : j ≤ n
    · exact lv_all hc ok fac hF it tb n j e
    · have : j = n + 1 := by omega
      subst this
      intro x f he
      cases q : findD t.defs x with
      | none =>
        unfold Tab.prog at he
        simp only [q] at he
        rcases he with he | he | he <;> (split at he <;> (try split at he) <;> cases he)
      | some d =>
        have hd := (findD_mem q).1
        obtain ⟨⟨kws, F, _⟩, e2⟩ := hF x d q
        have O := ok d hd
        rw [e2]
        have hk : t.prog.ent x = some (.fn d.fn) ∨ t.prog.ent x = some (.mth d.fn) ∨ t.prog.ent x = some (.kw d.fn) := by
          unfold Tab.prog
          simp only [q]
          split
          · exact .inr (.inr rfl)
          · split
            · exact .inr (.inl rfl)
            · exact .inl rfl
        have c1 : chkB t.prog t.fre d.N (defScope d.st) (fun _ => true) (defBody d.st) d.fn.body = true := by
          unfold Tab.chk at hc
          simp only [Bool.and_eq_true, List.all_eq_true] at hc
          exact hc.1.1.1.1.1 d hd
        exact def_ok (W := wd K) F O.scp O.np O.ns hk c1 fac (lv_all hc ok fac hF it tb n) it tb
end
end Py

namespace Py
open PySem PySem.Spec PyProof.Rows L2

theorem fro_of {K : PySem.W.Frag} {H : Hp} {a : Addr} {xs : List V} (hO : Only H) (h : SqL K H a xs) : SqF K H a xs := by
  rcases h with (h | h) | h
  · rcases hO a with e | ⟨o, ys, e⟩
    · rw [e] at h; cases h
    · rw [e] at h; cases h
  · exact .inl h
  · exact .inr ⟨fun H' => .inr h, trivial⟩
theorem end_of {l : PySem.W.OpenLaw} {n D ob : Nat} {q : Program} {loose : List PySem.Str} {XP : (PySem.Str → Option Value) → Heap → Prop} {d : DefRec} {t : Tab} {dl : Df}
    (hn : l.most = some n) (hn2 : n ≤ sizeLine) (hdf : d.params.defaults = []) (hr : Room (5 * D + 1) callerA) (hnm : d.name = ("law" : PySem.Str))
    (hc : t.chk = true) (ok : ∀ d ∈ t.defs, DfOk d) (hl : findD t.defs ("law" : PySem.Str) = some dl) (hm : dl.isM = false) (hkw : dl.kw = none) (hps : dl.ps = [("_law_script" : PySem.Str)])
    (hba : ∀ (K : PySem.W.Frag) (f : Addr) (fd : FuncData), FunD K dl.name dl.qual (defArgs dl.st) (defBody dl.st) (defScope dl.st) [] [] f fd → ∀ (s : Shared) (u : Value), BindsTo s fd ⟨[u], []⟩ [(("_law_script" : PySem.Str), u)])
    (hlaw : ∀ ns : List Int, ns.length ≤ n → ∃ m, callN t.prog D ("law" : PySem.Str) [.fro ns] [] = .ok (.bool true) m) :
    PySem.W.WalkO q loose XP (hookY ob t.fa t.dd t.tbs).says l.row.toRowW d [] (fun f vs => PySem.call f vs) := by
  refine Att.attach_call hn hdf fun w s₀ s₁ mg mb fa o pm cd doc a vs ns G Y ho hd hcd hmg hobj hints hlen hg => ?_
  obtain ⟨K, KX, c⟩ := Y
  rw [hnm] at hmg
  obtain ⟨T, fac, hF⟩ := facts_of hc ok (fun e => by rw [e] at hl; cases hl) KX G.T.g c
  obtain ⟨⟨kws, F, ek⟩, e2⟩ := hF _ _ hl
  rw [hkw] at ek
  have ek : kws = [] := ek
  subst ek
  have hent : t.prog.ent ("law" : PySem.Str) = some (.fn dl.fn) := by
    unfold Tab.prog
    simp only [hl, hm, hkw]
    rfl
  have had : fa = T.ad ("law" : PySem.Str) := by
    have := (fac.fn _ _ hent).1
    rw [hmg] at this
    cases this; rfl
  refine law_call (sp := spC (wd K) (callN t.prog D) ("law" : PySem.Str)) (CX := L2.CX l.prog w) (x := "_law_script") KX G.T.g G.T.b G.T.builtins G.T.nolimit hg hobj hints (Nat.le_trans hlen hn2) hr (fun base h1 h2 => ?_) (hba K _ _ F) (fun H hO hS => ?_) fun H e s' h => ?_
  · have L := lv_all (prog := l.prog) (w := w) (base := base) hc ok fac hF (its_of hc ok fac hF) (tabs_of KX G.T.g c) D D (Nat.le_refl _) _ _ (.inl hent)
    rw [e2, hps] at L
    rw [had]
    exact L
  · obtain ⟨m, em⟩ := hlaw ns hlen
    refine ⟨fun _ => a, [], [.fro ns], ⟨fun i j hi => absurd hi (Nat.not_lt_zero _), fun i o h => by simp at h⟩, .cons (.fro (fro_of hO hS)) .nil, ?_⟩
    rw [em]
    intro ρ' H' u _ _ r
    cases r; rfl
  · obtain ⟨_, _, _, _, _, _, _, _, _, _, _, _, z⟩ := h
    exact z
end Py

/-! Laws of the plain language's runs. -/
namespace Py

/-! ### memory -/
@[simp] theorem mem_new (m : Mem) (xs : List Val) : Mem.list (m ++ [.list xs]) m.length = some xs := by
  unfold Mem.list; simp
@[simp] theorem get_new (m : Mem) (o : Ob) : (m ++ [o])[m.length]? = some o := by simp
@[simp] theorem set_new (m : Mem) (o o' : Ob) : (m ++ [o]).set m.length o' = m ++ [o'] := by
  rw [List.set_append_right _ _ (Nat.le_refl _)]; simp
@[simp] theorem mem_newg (m g : Mem) (xs : List Val) : Mem.list (m ++ .list xs :: g) m.length = some xs := by
  unfold Mem.list; simp
@[simp] theorem get_newg (m g : Mem) (o : Ob) : (m ++ o :: g)[m.length]? = some o := by simp
@[simp] theorem set_newg (m g : Mem) (o o' : Ob) : (m ++ o :: g).set m.length o' = m ++ o' :: g := by
  rw [List.set_append_right _ _ (Nat.le_refl _)]; simp
theorem list_lt {m : Mem} {k : Nat} {xs : List Val} (h : m.list k = some xs) : k < m.length := by
  unfold Mem.list at h
  cases e : m[k]? with
  | none => rw [e] at h; cases h
  | some o => exact (List.getElem?_eq_some_iff.mp e).1
theorem list_app {m g : Mem} {k : Nat} {xs : List Val} (h : m.list k = some xs) : Mem.list (m ++ g) k = some xs := by
  have := list_lt h
  unfold Mem.list at h ⊢
  rw [List.getElem?_append_left this]; exact h
theorem get_app {m g : Mem} {k : Nat} {o : Ob} (h : m[k]? = some o) : (m ++ g)[k]? = some o := by
  rw [List.getElem?_append_left (List.getElem?_eq_some_iff.mp h).1]; exact h

theorem gc_app {m g : Mem} {v : Val} (h : v.under m.length = true) : gc m (.ok v (m ++ g)) = .ok v m := by
  unfold gc
  have e : (m ++ g).take m.length = m := by simp
  simp only [e]
  rw [if_pos ⟨by simp, fun i o q => .inl (by simpa using q)⟩, if_pos h]
@[simp] theorem gc_same {m : Mem} {v : Val} (h : v.under m.length = true) : gc m (.ok v m) = .ok v m := by
  have := gc_app (g := []) h
  rwa [List.append_nil] at this
theorem gc_ref {m g : Mem} {k : Nat} {o : Ob} (hk : m.length ≤ k) (ho : (m ++ g)[k]? = some o) (hu : o.under m.length = true) : gc m (.ok (.ref k) (m ++ g)) = .ok (.ref m.length) (m ++ [o]) := by
  unfold gc
  have e : (m ++ g).take m.length = m := by simp
  simp only [e]
  rw [if_pos ⟨by simp, fun i o q => .inl (by simpa using q)⟩]
  have h : Val.under m.length (.ref k) = false := by unfold Val.under; exact decide_eq_false (Nat.not_lt.mpr hk)
  rw [h, if_neg (by decide)]
  simp only [ho]
  rw [if_pos ⟨hu, hk⟩]
@[simp] theorem under_int (n : Nat) (i : Int) : (Val.int i).under n = true := by unfold Val.under; rfl
@[simp] theorem under_bool (n : Nat) (i : Bool) : (Val.bool i).under n = true := by unfold Val.under; rfl
@[simp] theorem under_none (n : Nat) : (Val.none).under n = true := by unfold Val.under; rfl
@[simp] theorem under_str (n : Nat) (s : List Nat) : (Val.str s).under n = true := by unfold Val.under; rfl
@[simp] theorem under_fro (n : Nat) (s : List Int) : (Val.fro s).under n = true := by unfold Val.under; rfl
@[simp] theorem under_tup (n : Nat) (xs : List Val) : (Val.tup xs).under n = Val.underL n xs := by rw [Val.under]
@[simp] theorem underL_nil (n : Nat) : Val.underL n [] = true := by unfold Val.underL; rfl
@[simp] theorem underL_cons (n : Nat) (x : Val) (xs : List Val) : Val.underL n (x :: xs) = (x.under n && Val.underL n xs) := by rw [Val.underL]
theorem underL_all {n : Nat} : ∀ {xs : List Val}, (∀ x ∈ xs, x.under n = true) → Val.underL n xs = true
  | [], _ => by simp
  | x :: xs, h => by
    rw [underL_cons, h x List.mem_cons_self, underL_all fun y hy => h y (List.mem_cons_of_mem _ hy)]; rfl
@[simp] theorem underL_ints (n : Nat) (xs : List Int) : Val.underL n (xs.map .int) = true :=
  underL_all fun x hx => by obtain ⟨y, _, e⟩ := List.mem_map.mp hx; subst e; simp
@[simp] theorem ob_under (n : Nat) (xs : List Val) : (Ob.list xs).under n = Val.underL n xs := by rw [Ob.under]

/-! ### loops -/
@[simp] theorem still_none (m : Mem) : still none m := by unfold still; trivial
/-- what comes behind a run that goes on, or returns -/
def Flow.P (r : Flow) (J : Loc → Mem → Prop) (R : Val → Mem → Prop) : Prop := match r with
  | .nx l m => J l m
  | .cnt l m => J l m
  | .ret v m => R v m
  | _ => False
theorem Flow.by {r r' : Flow} {J : Loc → Mem → Prop} {R : Val → Mem → Prop} (h : r = r') (k : r'.P J R) : r.P J R := by rw [h]; exact k
theorem Flow.nx_of {l : Loc} {m : Mem} {J : Loc → Mem → Prop} {R : Val → Mem → Prop} (h : J l m) : (Flow.nx l m).P J R := h
/-- a loop that runs to its end, or returns -/
theorem for_run {chk : Option (Nat × List Val)} {t : Tg} {b : Loc → Mem → Flow} {xs : List Val} (I : Nat → Loc → Mem → Prop) (R : Val → Mem → Prop)
    (hst : ∀ i l m, I i l m → still chk m)
    (hs : ∀ i x l m, xs[i]? = some x → I i l m → ∃ l1, assignT m t x l = some l1 ∧ (b l1 m).P (I (i + 1)) R) :
    ∀ {l : Loc} {m : Mem}, I 0 l m → (∃ l' m', forLoop chk t b xs l m = .nx l' m' ∧ I xs.length l' m') ∨ ∃ v m', forLoop chk t b xs l m = .ret v m' ∧ R v m' := by
  have key : ∀ (n : Nat) (i : Nat) (l : Loc) (m : Mem), xs.length - i = n → i ≤ xs.length → I i l m → (∃ l' m', forLoop chk t b (xs.drop i) l m = .nx l' m' ∧ I xs.length l' m') ∨ ∃ v m', forLoop chk t b (xs.drop i) l m = .ret v m' ∧ R v m' := by
    intro n
    induction n with
    | zero =>
      intro i l m hn hi h
      have e : i = xs.length := by omega
      subst e
      refine .inl ⟨l, m, ?_, h⟩
      rw [List.drop_length, forLoop, if_pos (hst _ _ _ h)]
    | succ n ih =>
      intro i l m hn hi h
      have hlt : i < xs.length := by omega
      obtain ⟨l1, h1, h2⟩ := hs i xs[i] l m (by simp [hlt]) h
      rw [List.drop_eq_getElem_cons hlt, forLoop, if_pos (hst _ _ _ h), h1]
      cases e : b l1 m with
      | nx l2 m2 => rw [e] at h2; simp only [e]; exact ih (i + 1) l2 m2 (by omega) hlt h2
      | cnt l2 m2 => rw [e] at h2; simp only [e]; exact ih (i + 1) l2 m2 (by omega) hlt h2
      | ret v m2 => rw [e] at h2; simp only [e]; exact .inr ⟨v, m2, rfl, h2⟩
      | brk _ _ => rw [e] at h2; exact h2.elim
      | exc _ _ _ _ => rw [e] at h2; exact h2.elim
      | err => rw [e] at h2; exact h2.elim
  intro l m h
  have := key xs.length 0 l m (by simp) (Nat.zero_le _) h
  rwa [List.drop_zero] at this
/-- a loop that runs to its end -/
theorem for_all {chk : Option (Nat × List Val)} {t : Tg} {b : Loc → Mem → Flow} {xs : List Val} (I : Nat → Loc → Mem → Prop)
    (hst : ∀ i l m, I i l m → still chk m)
    (hs : ∀ i x l m, xs[i]? = some x → I i l m → ∃ l1, assignT m t x l = some l1 ∧ (b l1 m).P (I (i + 1)) (fun _ _ => False))
    {l : Loc} {m : Mem} (h : I 0 l m) : ∃ l' m', forLoop chk t b xs l m = .nx l' m' ∧ I xs.length l' m' := by
  rcases for_run (chk := chk) (t := t) (b := b) (xs := xs) I (fun _ _ => False) hst hs h with z | ⟨v, m', _, z⟩
  · exact z
  · exact z.elim
/-- .. or is left -/
def Flow.B (r : Flow) (J B : Loc → Mem → Prop) (R : Val → Mem → Prop) : Prop := match r with
  | .nx l m => J l m
  | .cnt l m => J l m
  | .brk l m => B l m
  | .ret v m => R v m
  | _ => False
theorem Flow.byB {r r' : Flow} {J B : Loc → Mem → Prop} {R : Val → Mem → Prop} (h : r = r') (k : r'.B J B R) : r.B J B R := by rw [h]; exact k
theorem for_brk {chk : Option (Nat × List Val)} {t : Tg} {b : Loc → Mem → Flow} {xs : List Val} (I : Nat → Loc → Mem → Prop) (B : Loc → Mem → Prop)
    (hst : ∀ i l m, I i l m → still chk m)
    (hs : ∀ i x l m, xs[i]? = some x → I i l m → ∃ l1, assignT m t x l = some l1 ∧ (b l1 m).B (I (i + 1)) B (fun _ _ => False)) :
    ∀ {l : Loc} {m : Mem}, I 0 l m → ∃ l' m', forLoop chk t b xs l m = .nx l' m' ∧ (I xs.length l' m' ∨ B l' m') := by
  have key : ∀ (n : Nat) (i : Nat) (l : Loc) (m : Mem), xs.length - i = n → i ≤ xs.length → I i l m → ∃ l' m', forLoop chk t b (xs.drop i) l m = .nx l' m' ∧ (I xs.length l' m' ∨ B l' m') := by
    intro n
    induction n with
    | zero =>
      intro i l m hn hi h
      have e : i = xs.length := by omega
      subst e
      refine ⟨l, m, ?_, .inl h⟩
      rw [List.drop_length, forLoop, if_pos (hst _ _ _ h)]
    | succ n ih =>
      intro i l m hn hi h
      have hlt : i < xs.length := by omega
      obtain ⟨l1, h1, h2⟩ := hs i xs[i] l m (by simp [hlt]) h
      rw [List.drop_eq_getElem_cons hlt, forLoop, if_pos (hst _ _ _ h), h1]
      cases e : b l1 m with
      | nx l2 m2 => rw [e] at h2; simp only [e]; exact ih (i + 1) l2 m2 (by omega) hlt h2
      | cnt l2 m2 => rw [e] at h2; simp only [e]; exact ih (i + 1) l2 m2 (by omega) hlt h2
      | ret v m2 => rw [e] at h2; exact h2.elim
      | brk l2 m2 => rw [e] at h2; simp only [e]; exact ⟨l2, m2, rfl, .inr h2⟩
      | exc _ _ _ _ => rw [e] at h2; exact h2.elim
      | err => rw [e] at h2; exact h2.elim
  intro l m h
  have := key xs.length 0 l m (by simp) (Nat.zero_le _) h
  rwa [List.drop_zero] at this
@[simp] theorem asg_name (m : Mem) (i : Nat) (v : Val) (l : Loc) : assignT m (.name i) v l = some (l.set i (some v)) := by rw [assignT]
@[simp] theorem asg_tup (m : Mem) (ts : List Tg) (xs : List Val) (l : Loc) : assignT m (.tup ts) (.tup xs) l = assignTs m ts xs l := by rw [assignT]
@[simp] theorem asg_kt (m : Mem) (ts : List Tg) (xs : List Int) (l : Loc) : assignT m (.tup ts) (.kt xs) l = assignTs m ts (xs.map .int) l := by rw [assignT]
@[simp] theorem asgs_nil (m : Mem) (l : Loc) : assignTs m [] [] l = some l := by rw [assignTs]
@[simp] theorem asgs_cons (m : Mem) (t : Tg) (ts : List Tg) (x : Val) (xs : List Val) (l : Loc) : assignTs m (t :: ts) (x :: xs) l = (assignT m t x l).bind fun l' => assignTs m ts xs l' := by rw [assignTs]
theorem rng_get {n i : Nat} {x : Val} (h : ((List.range n).map fun (i : Nat) => Val.int i)[i]? = some x) : i < n ∧ x = .int i := by
  rw [List.getElem?_map] at h
  cases e : (List.range n)[i]? with
  | none => rw [e] at h; cases h
  | some j =>
    rw [e] at h
    obtain ⟨h1, h2⟩ := List.getElem?_eq_some_iff.mp e
    simp at h1 h2
    subst h2
    exact ⟨h1, (Option.some.inj h).symm⟩
theorem rng2_get {lo : Int} {n i : Nat} {x : Val} (h : ((List.range n).map fun (i : Nat) => Val.int (lo + i))[i]? = some x) : i < n ∧ x = .int (lo + i) := by
  rw [List.getElem?_map] at h
  cases e : (List.range n)[i]? with
  | none => rw [e] at h; cases h
  | some j =>
    rw [e] at h
    obtain ⟨h1, h2⟩ := List.getElem?_eq_some_iff.mp e
    simp at h1 h2
    subst h2
    exact ⟨h1, (Option.some.inj h).symm⟩
theorem callN_fn {P : Prog} {d : Nat} {f : Str} {fd : Fn} {vs : List Val} {m : Mem} (h : P.ent f = some (.fn fd)) (hl : vs.length = fd.np) : callN P (d + 1) f vs m = gc m (retOf (execB P (callN P d) fd.body (start fd.ns vs) m)) := by
  rw [callN, h]; simp only; rw [if_pos hl]

/-! ### operations -/
theorem mulOk_small {i j : Int} (h : (-18446744073709551616 < i ∧ i < 18446744073709551616) ∨ (-18446744073709551616 < j ∧ j < 18446744073709551616)) : mulOk i j := by
  unfold mulOk big64; exact h
theorem divOk_small {j : Int} (h : j ≠ 0 ∧ j.natAbs < 1073741824) : divOk j := h
@[simp] theorem op_reps {m : Mem} {k : Nat} {i : Int} {xs : List Val} (h : m.list k = some xs) (h1 : (-9223372036854775808 ≤ i ∧ i < 9223372036854775808) ∧ xs.length * i.toNat ≤ SZ) : binop .mul (.ref k) (.int i) m = .ok (.ref m.length) (m ++ [.list (List.replicate i.toNat xs).flatten]) := by
  unfold binop; simp only [h]; rw [if_pos h1]
@[simp] theorem op_addI (i j : Int) (m : Mem) : binop .add (.int i) (.int j) m = .ok (.int (i + j)) m := id rfl
@[simp] theorem op_subI (i j : Int) (m : Mem) : binop .sub (.int i) (.int j) m = .ok (.int (i - j)) m := id rfl
theorem op_mulI {i j : Int} {m : Mem} (h : mulOk i j) : binop .mul (.int i) (.int j) m = .ok (.int (i * j)) m := if_pos h
theorem op_divI {i j : Int} {m : Mem} (h : divOk j) : binop .fdiv (.int i) (.int j) m = .ok (.int (i.fdiv j)) m := if_pos h
theorem op_modI {i j : Int} {m : Mem} (h : 0 < j) : binop .mod (.int i) (.int j) m = .ok (.int (i % j)) m := if_pos h
theorem op_powI {i j : Int} {m : Mem} (h : powOk i j) : binop .pow (.int i) (.int j) m = .ok (.int (i ^ j.toNat)) m := if_pos h
theorem op_powL {j : Int} {m : Mem} (h : 0 ≤ j ∧ j ≤ 1000000) : binop .pow (.int 10) (.int j) m = .ok (.int (10 ^ j.toNat)) m := if_pos ⟨h.1, h.2, by decide⟩
@[simp] theorem aug_addI (i j : Int) (m : Mem) : augop .add (.int i) (.int j) m = .ok (.int (i + j)) m := id rfl
@[simp] theorem aug_subI (i j : Int) (m : Mem) : augop .sub (.int i) (.int j) m = .ok (.int (i - j)) m := id rfl
@[simp] theorem neg_I (i : Int) (m : Mem) : negop (.int i) m = .ok (.int (-i)) m := id rfl
@[simp] theorem ltI (i j : Int) (m : Mem) : cmpop .lt (.int i) (.int j) m = some (decide (i < j)) := id rfl
@[simp] theorem leI (i j : Int) (m : Mem) : cmpop .le (.int i) (.int j) m = some (decide (i ≤ j)) := id rfl
@[simp] theorem gtI (i j : Int) (m : Mem) : cmpop .gt (.int i) (.int j) m = some (decide (j < i)) := id rfl
@[simp] theorem geI (i j : Int) (m : Mem) : cmpop .ge (.int i) (.int j) m = some (decide (j ≤ i)) := id rfl
@[simp] theorem dat_int (i : Int) : (Val.int i).dat = true := by unfold Val.dat Val.pl Val.depth; rfl
@[simp] theorem dat_bool (i : Bool) : (Val.bool i).dat = true := by unfold Val.dat Val.pl Val.depth; rfl
@[simp] theorem dat_none : Val.none.dat = true := by unfold Val.dat Val.pl Val.depth; rfl
@[simp] theorem dat_str (i : List Nat) : (Val.str i).dat = true := by unfold Val.dat Val.pl Val.depth; rfl
@[simp] theorem eqI (i j : Int) (m : Mem) : cmpop .eq (.int i) (.int j) m = some (i == j) := by
  show eqop m (.int i) (.int j) = _
  unfold eqop; simp [Val.eqv]
@[simp] theorem neI (i j : Int) (m : Mem) : cmpop .ne (.int i) (.int j) m = some (!(i == j)) := by
  show (eqop m (.int i) (.int j)).map not = _
  unfold eqop; simp [Val.eqv]
@[simp] theorem tr_bool (m : Mem) (b : Bool) : truth m (.bool b) = some b := id rfl
@[simp] theorem tr_int (m : Mem) (b : Int) : truth m (.int b) = some (b != 0) := id rfl
@[simp] theorem blt_int_int (i : Int) (m : Mem) : bltop .int [.int i] m = .ok (.int i) m := id rfl
@[simp] theorem blt_int_bool (i : Bool) (m : Mem) : bltop .int [.bool i] m = .ok (.int (if i then 1 else 0)) m := id rfl
@[simp] theorem blt_abs (i : Int) (m : Mem) : bltop .abs [.int i] m = .ok (.int (if i < 0 then -i else i)) m := id rfl
@[simp] theorem blt_min (i j : Int) (m : Mem) : bltop .min [.int i, .int j] m = .ok (.int (if j < i then j else i)) m := id rfl
@[simp] theorem blt_max (i j : Int) (m : Mem) : bltop .max [.int i, .int j] m = .ok (.int (if j > i then j else i)) m := id rfl
@[simp] theorem blt_len_fro (xs : List Int) (m : Mem) : bltop .len [.fro xs] m = .ok (.int xs.length) m := id rfl
@[simp] theorem bm_app {m : Mem} {k : Nat} {v : Val} {xs : List Val} (h : m.list k = some xs) (hl : xs.length < SZ) : bmop .append (.ref k) [v] m = .ok .none (m.set k (.list (xs ++ [v]))) := by
  unfold bmop; simp only [h]; rw [if_pos hl]
theorem recv_list {f : BM} {m : Mem} {k : Nat} {xs : List Val} (h : m.list k = some xs) : recvOk f m (.ref k) = true := by
  unfold recvOk; simp only [h]; rfl

/-! ### the evaluator's clauses -/
@[simp] theorem ev_evalE0 (P : Prog) (C : Calls) (l : Loc) (m : Mem) {v} : evalE P C (.lit v) l m = (.ok v m) := by rw [evalE] <;> rfl
@[simp] theorem ev_evalE1 (P : Prog) (C : Calls) (l : Loc) (m : Mem) {i} : evalE P C (.var i) l m = (match l[i]? with
    | some (some v) => .ok v m
    | _ => .err) := by rw [evalE] <;> rfl
@[simp] theorem ev_evalE2 (P : Prog) (C : Calls) (l : Loc) (m : Mem) {x} : evalE P C (.glob x) l m = (match P.glob x with
    | some v => .ok v m
    | none => .err) := by rw [evalE] <;> rfl
@[simp] theorem ev_evalE3 (P : Prog) (C : Calls) (l : Loc) (m : Mem) {o} {a} {b} : evalE P C (.bin o a b) l m = ((evalE P C a l m).bind fun x m1 => (evalE P C b l m1).bind fun y m2 => binop o x y m2) := by rw [evalE] <;> rfl
@[simp] theorem ev_evalE4 (P : Prog) (C : Calls) (l : Loc) (m : Mem) {a} : evalE P C (.neg a) l m = ((evalE P C a l m).bind fun x m1 => negop x m1) := by rw [evalE] <;> rfl
@[simp] theorem ev_evalE5 (P : Prog) (C : Calls) (l : Loc) (m : Mem) {o} {a} {b} : evalE P C (.cmp o a b) l m = ((evalE P C a l m).bind fun x m1 => (evalE P C b l m1).bind fun y m2 => match cmpop o x y m2 with
    | some c => .ok (.bool c) m2
    | none => .err) := by rw [evalE] <;> rfl
@[simp] theorem ev_evalE6 (P : Prog) (C : Calls) (l : Loc) (m : Mem) {o} {p} {a} {b} {c} : evalE P C (.chain o p a b c) l m = ((evalE P C a l m).bind fun x m1 => (evalE P C b l m1).bind fun y m2 => match cmpop o x y m2 with
    | some true => (evalE P C c l m2).bind fun z m3 => match cmpop p y z m3 with
      | some d => .ok (.bool d) m3
      | none => .err
    | some false => .ok (.bool false) m2
    | none => .err) := by rw [evalE] <;> rfl
@[simp] theorem ev_evalE7 (P : Prog) (C : Calls) (l : Loc) (m : Mem) {a} {b} : evalE P C (.band a b) l m = ((evalE P C a l m).bind fun x m1 => match x with
    | .bool true => evalE P C b l m1
    | .bool false => .ok (.bool false) m1
    | _ => .err) := by rw [evalE] <;> rfl
@[simp] theorem ev_evalE8 (P : Prog) (C : Calls) (l : Loc) (m : Mem) {a} {b} : evalE P C (.bor a b) l m = ((evalE P C a l m).bind fun x m1 => match x with
    | .bool false => evalE P C b l m1
    | .bool true => .ok (.bool true) m1
    | _ => .err) := by rw [evalE] <;> rfl
@[simp] theorem ev_evalE9 (P : Prog) (C : Calls) (l : Loc) (m : Mem) {a} : evalE P C (.bnot a) l m = ((evalE P C a l m).bind fun x m1 => match x with
    | .bool b => .ok (.bool (!b)) m1
    | _ => .err) := by rw [evalE] <;> rfl
@[simp] theorem ev_evalE10 (P : Prog) (C : Calls) (l : Loc) (m : Mem) {c} {a} {b} : evalE P C (.ite c a b) l m = ((evalE P C c l m).bind fun x m1 => match truth m1 x with
    | some true => evalE P C a l m1
    | some false => evalE P C b l m1
    | none => .err) := by rw [evalE] <;> rfl
@[simp] theorem ev_evalE11 (P : Prog) (C : Calls) (l : Loc) (m : Mem) {es} : evalE P C (.tup es) l m = ((evalL P C es l m).bind fun vs m1 => if vs.length ≤ SZ then .ok (.tup vs) m1 else .err) := by rw [evalE] <;> rfl
@[simp] theorem ev_evalE12 (P : Prog) (C : Calls) (l : Loc) (m : Mem) {es} : evalE P C (.lst es) l m = ((evalL P C es l m).bind fun vs m1 => if vs.length ≤ SZ then .ok (.ref m1.length) (m1 ++ [.list vs]) else .err) := by rw [evalE] <;> rfl
@[simp] theorem ev_evalE13 (P : Prog) (C : Calls) (l : Loc) (m : Mem) {tk} {ks} {vs} : evalE P C (.dct tk ks vs) l m = ((evalL P C ks l m).bind fun xs m1 => (evalL P C vs l m1).bind fun ys m2 => match xs, ys with
    | [], [] => .ok (.ref m2.length) (m2 ++ [.dict tk []])
    | _, _ => .err) := by rw [evalE] <;> rfl
@[simp] theorem ev_evalE14 (P : Prog) (C : Calls) (l : Loc) (m : Mem) {f} {es} : evalE P C (.call f es) l m = ((evalL P C es l m).bind fun vs m1 => C f vs m1) := by rw [evalE] <;> rfl
@[simp] theorem ev_evalE15 (P : Prog) (C : Calls) (l : Loc) (m : Mem) {f} {es} : evalE P C (.blt f es) l m = (gc m ((evalL P C es l m).bind fun vs m1 => bltop f vs m1)) := by rw [evalE] <;> rfl
@[simp] theorem ev_evalE16 (P : Prog) (C : Calls) (l : Loc) (m : Mem) {a} {ty} : evalE P C (.isi a ty) l m = ((evalE P C a l m).bind fun x m1 => match tyOf m1 x with
    | some t => .ok (.bool (isiK t ty)) m1
    | none => .err) := by rw [evalE] <;> rfl
@[simp] theorem ev_evalE17 (P : Prog) (C : Calls) (l : Loc) (m : Mem) {o} {f} {es} : evalE P C (.meth o f es) l m = ((evalE P C o l m).bind fun x m1 => match x with
    | .ref k => match m1[k]? with
      | some (.inst c fs) => match P.meth c f with
        | some q => if (fs.lookup f).isNone = true then (evalL P C es l m1).bind fun vs m2 => C q (x :: vs) m2 else .err
        | none => .err
      | _ => .err
    | _ => .err) := by rw [evalE] <;> rfl
@[simp] theorem ev_evalE18 (P : Prog) (C : Calls) (l : Loc) (m : Mem) {o} {f} {es} : evalE P C (.bm o f es) l m = ((evalE P C o l m).bind fun x m1 => if recvOk f m1 x = true then (evalL P C es l m1).bind fun vs m2 => bmop f x vs m2 else .err) := by rw [evalE] <;> rfl
@[simp] theorem ev_evalE19 (P : Prog) (C : Calls) (l : Loc) (m : Mem) {o} {f} : evalE P C (.attr o f) l m = ((evalE P C o l m).bind fun x m1 => attrP P C f x m1) := by rw [evalE] <;> rfl
@[simp] theorem ev_evalE26 (P : Prog) (C : Calls) (l : Loc) (m : Mem) {a} : evalE P C (.lenO a) l m = ((evalE P C a l m).bind fun x m1 => lenR P C x m1) := by rw [evalE] <;> rfl
@[simp] theorem ev_evalE27 (P : Prog) (C : Calls) (l : Loc) (m : Mem) {a} : evalE P C (.listO a) l m = ((evalE P C a l m).bind fun x m1 => listR P C x m1) := by rw [evalE] <;> rfl
@[simp] theorem ev_evalE29 (P : Prog) (C : Calls) (l : Loc) (m : Mem) {neg t a} : evalE P C (.tin neg t a) l m = ((evalE P C a l m).bind fun x m1 => tinR P neg t x m1) := by rw [evalE] <;> rfl
@[simp] theorem ev_evalE30 (P : Prog) (C : Calls) (l : Loc) (m : Mem) {t a} : evalE P C (.tix t a) l m = ((evalE P C a l m).bind fun x m1 => tixR P t x m1) := by rw [evalE] <;> rfl
@[simp] theorem ev_evalE28 (P : Prog) (C : Calls) (l : Loc) (m : Mem) {o} {a} : evalE P C (.join o a) l m = (gc m ((evalE P C o l m).bind fun x m1 => strR x fun s => (evalE P C a l m1).bind fun y m2 => joinR s y m2)) := by rw [evalE] <;> rfl
@[simp] theorem ev_evalI4 (P : Prog) (C : Calls) (l : Loc) (m : Mem) {e} : evalI P C (.own e) l m = ((evalE P C e l m).bind fun x m1 => ownR P x m1) := by rw [evalI] <;> rfl
@[simp] theorem ev_evalE38 (P : Prog) (C : Calls) (l : Loc) (m : Mem) {f} {o} {a} : evalE P C (.sm1 f o a) l m = ((evalE P C o l m).bind fun x m1 => strR x fun s => (evalE P C a l m1).bind fun y m2 => strR y fun t => .ok (smop f s t) m2) := by rw [evalE] <;> rfl
@[simp] theorem ev_evalE31 (P : Prog) (C : Calls) (l : Loc) (m : Mem) {neg a d} : evalE P C (.din neg a d) l m = ((evalE P C a l m).bind fun x m1 => (evalE P C d l m1).bind fun y m2 => dinR neg x y m2) := by rw [evalE] <;> rfl
@[simp] theorem ev_evalE32 (P : Prog) (C : Calls) (l : Loc) (m : Mem) {d a} : evalE P C (.dget d a) l m = ((evalE P C d l m).bind fun x m1 => (evalE P C a l m1).bind fun y m2 => dgetR x y m2) := by rw [evalE] <;> rfl
@[simp] theorem ev_evalE33 (P : Prog) (C : Calls) (l : Loc) (m : Mem) {d a z} : evalE P C (.dgetD d a z) l m = ((evalE P C d l m).bind fun x m1 => isDctR x m1 ((evalE P C a l m1).bind fun y m2 => (evalE P C z l m2).bind fun w m3 => dgetDR x y w m3)) := by rw [evalE] <;> rfl
@[simp] theorem ev_evalE33p (P : Prog) (C : Calls) (l : Loc) (m : Mem) {d a} : evalE P C (.dpop d a) l m = ((evalE P C d l m).bind fun x m1 => isDctR x m1 ((evalE P C a l m1).bind fun y m2 => dpopR x y m2)) := by rw [evalE] <;> rfl
@[simp] theorem ev_evalE34 (P : Prog) (C : Calls) (l : Loc) (m : Mem) {d} : evalE P C (.keysD d) l m = ((evalE P C d l m).bind fun x m1 => keysR x m1) := by rw [evalE] <;> rfl
@[simp] theorem ev_evalE35 (P : Prog) (C : Calls) (l : Loc) (m : Mem) {d} : evalE P C (.sortP d) l m = ((evalE P C d l m).bind fun x m1 => sortPR x m1) := by rw [evalE] <;> rfl
@[simp] theorem ev_evalE36 (P : Prog) (C : Calls) (l : Loc) (m : Mem) {f es k z} : evalE P C (.callK f es k z) l m = ((evalL P C es l m).bind fun vs m1 => (evalE P C z l m1).bind fun w m2 => C f (vs ++ [w]) m2) := by rw [evalE] <;> rfl
@[simp] theorem ev_evalE37 (P : Prog) (C : Calls) (l : Loc) (m : Mem) {f es} : evalE P C (.callD f es) l m = ((evalL P C es l m).bind fun vs m1 => match P.ent f with
    | some (.clsK i) => match P.kwn i with
      | some (_, w) => C f (vs ++ [w]) m1
      | none => .err
    | _ => .err) := by rw [evalE] <;> rfl
@[simp] theorem ev_evalI5 (P : Prog) (C : Calls) (l : Loc) (m : Mem) {e} : evalI P C (.vals e) l m = ((evalE P C e l m).bind fun x m1 => valsR x m1) := by rw [evalI] <;> rfl
theorem dct_at {m : Mem} {k : Nat} {kvs : List (Val × Val)} (h : m[k]? = some (.dict true kvs)) : dctOf m (.ref k) = some (k, kvs) := by
  unfold dctOf; simp only [h]
theorem din_ok {m : Mem} {k : Nat} {kvs : List (Val × Val)} {neg : Bool} {x : Val} (h : m[k]? = some (.dict true kvs)) (hx : putOk true x = true) : dinR neg x (.ref k) m = .ok (.bool ((dlook kvs x).isSome != neg)) m := by
  unfold dinR; simp only [dct_at h]; rw [if_pos hx]
theorem dget_ok {m : Mem} {k : Nat} {kvs : List (Val × Val)} {x v : Val} (h : m[k]? = some (.dict true kvs)) (hx : putOk true x = true) (hv : dlook kvs x = some v) : dgetR (.ref k) x m = .ok v m := by
  unfold dgetR; simp only [dct_at h]; rw [if_pos hx]; simp only [hv]
theorem keys_ok {m : Mem} {k : Nat} {kvs : List (Val × Val)} (h : m[k]? = some (.dict true kvs)) : keysR (.ref k) m = .ok (.ref m.length) (m ++ [.list (kvs.map (·.1))]) := by
  unfold keysR; simp only [dct_at h]
theorem vals_ok {m : Mem} {k : Nat} {kvs : List (Val × Val)} (h : m[k]? = some (.fdict kvs)) : valsR (.ref k) m = .ok (kvs.map (·.2), none) m := by
  unfold valsR; simp only [h]
theorem dput_ok {m : Mem} {k : Nat} {kvs : List (Val × Val)} {v y : Val} {l : Loc} (h : m[k]? = some (.dict true kvs)) (hy : putOk true y = true) (hl : kvs.length < SZ) : dputF v (.ref k) y l m = .nx l (m.set k (.dict true (dput kvs y v))) := by
  unfold dputF; simp only [dct_at h]; rw [if_pos ⟨hy, hl⟩]
theorem ddel_ok {m : Mem} {k : Nat} {kvs : List (Val × Val)} {y : Val} {l : Loc} (h : m[k]? = some (.dict true kvs)) (hy : putOk true y = true) (hv : (dlook kvs y).isSome = true) : ddelF (.ref k) y l m = .nx l (m.set k (.dict true (ddel kvs y))) := by
  unfold ddelF; simp only [dct_at h]; rw [if_pos ⟨hy, hv⟩]
theorem lock_ok {m m0 : Mem} {k : Nat} {kvs : List (Val × Val)} {g : Mem → Flow} (h : m[k]? = some (.dict true kvs)) : lockF (.ok (.ref k) m0) m g = unlockF k kvs (g (m.set k (.fdict kvs))) := by
  unfold lockF; simp only [h]
@[simp] theorem unl_nx (k : Nat) (kvs : List (Val × Val)) (l : Loc) (m : Mem) : unlockF k kvs (.nx l m) = .nx l (m.set k (.dict true kvs)) := id rfl
@[simp] theorem strR_ok (s : List Nat) (f : List Nat → Res Val) : strR (.str s) f = f s := id rfl
/-- a field's value -/
theorem attr_fld {P : Prog} {C : Calls} {f c : Str} {k : Nat} {m : Mem} {fs : List (Str × Val)} {v : Val} (h : m[k]? = some (.inst c fs)) (hp : P.prop c f = none) (hf : fs.lookup f = some v) : attrP P C f (.ref k) m = .ok v m := by
  unfold attrP; simp only [h, hp, hf]
/-- a property's value -/
theorem attr_prop {P : Prog} {C : Calls} {f c q : Str} {k : Nat} {m m2 : Mem} {fs : List (Str × Val)} {v : Val} (h : m[k]? = some (.inst c fs)) (hp : P.prop c f = some q) (hc : C q [.ref k] m = .ok v m2) : attrP P C f (.ref k) m = .ok v m2 := by
  unfold attrP; simp only [h, hp, hc]
theorem lenR_ok {P : Prog} {C : Calls} {c q : Str} {k : Nat} {m m2 : Mem} {fs : List (Str × Val)} {n : Int} (h : m[k]? = some (.inst c fs)) (hp : P.meth c "__len__" = some q) (hc : C q [.ref k] m = .ok (.int n) m2) (hn : 0 ≤ n ∧ n < 9223372036854775808) : lenR P C (.ref k) m = .ok (.int n) m2 := by
  unfold lenR; simp only [h, hp, hc]; rw [if_pos hn]
theorem iterL_ok {P : Prog} {c f : Str} {k l : Nat} {m : Mem} {fs : List (Str × Val)} {xs : List Val} (h : m[k]? = some (.inst c fs)) (hp : P.iter c = some f) (hf : fs.lookup f = some (.ref l)) (hl : m.list l = some xs) : iterL P (.ref k) m = some l := by
  unfold iterL; simp only [h, hp, hf, hl]; rfl
theorem listR_ok {P : Prog} {C : Calls} {l : Nat} {x : Val} {m m2 : Mem} {xs : List Val} {n : Int} (h : iterL P x m = some l) (hl : lenR P C x m = .ok (.int n) m2) (hn : n ≤ SZ) (hx : m2.list l = some xs) : listR P C x m = .ok (.ref m2.length) (m2 ++ [.list xs]) := by
  unfold listR; simp only [h, hl, hx]; rw [if_pos hn]
theorem ownR_ok {P : Prog} {l : Nat} {x : Val} {m : Mem} {xs : List Val} (h : iterL P x m = some l) (hx : m.list l = some xs) : ownR P x m = .ok (xs, some (l, xs)) m := by
  unfold ownR; simp only [h, hx]
@[simp] theorem ev_evalE20 (P : Prog) (C : Calls) (l : Loc) (m : Mem) {a} {i} : evalE P C (.idx a i) l m = ((evalE P C a l m).bind fun x m1 => (evalE P C i l m1).bind fun y m2 => match idxop m2 x y with
    | some v => .ok v m2
    | none => .err) := by rw [evalE] <;> rfl
@[simp] theorem ev_evalE21 (P : Prog) (C : Calls) (l : Loc) (m : Mem) {a} {lo} {hi} : evalE P C (.sliceB a lo hi) l m = ((evalE P C a l m).bind fun x m1 => (evalE P C lo l m1).bind fun p m2 => intR p m2 fun i => (evalE P C hi l m2).bind fun q m3 => intR q m3 fun j => sliceop m3 x (some i) (some j)) := by rw [evalE] <;> rfl
@[simp] theorem ev_evalE22 (P : Prog) (C : Calls) (l : Loc) (m : Mem) {a} {lo} : evalE P C (.sliceL a lo) l m = ((evalE P C a l m).bind fun x m1 => (evalE P C lo l m1).bind fun p m2 => intR p m2 fun i => sliceop m2 x (some i) none) := by rw [evalE] <;> rfl
@[simp] theorem ev_evalE23 (P : Prog) (C : Calls) (l : Loc) (m : Mem) {a} {hi} : evalE P C (.sliceH a hi) l m = ((evalE P C a l m).bind fun x m1 => (evalE P C hi l m1).bind fun q m3 => intR q m3 fun j => sliceop m3 x none (some j)) := by rw [evalE] <;> rfl
@[simp] theorem ev_evalE24 (P : Prog) (C : Calls) (l : Loc) (m : Mem) {elt} {t} {it} : evalE P C (.comp elt t it) l m = ((evalI P C it l m).bind fun w m1 => compEnd (compLoop w.2 (compEl t l (evalE P C elt)) w.1 m1)) := by rw [evalE] <;> rfl
@[simp] theorem ev_evalE25 (P : Prog) (C : Calls) (l : Loc) (m : Mem) {elt} {t} {it} {c} : evalE P C (.compIf elt t it c) l m = ((evalI P C it l m).bind fun w m1 => compEnd (compLoop w.2 (compElIf t l (evalE P C c) (evalE P C elt)) w.1 m1)) := by rw [evalE] <;> rfl
@[simp] theorem ev_evalL0 (P : Prog) (C : Calls) (l : Loc) (m : Mem) : evalL P C ([]) l m = (.ok [] m) := by rw [evalL] <;> rfl
@[simp] theorem ev_evalL1 (P : Prog) (C : Calls) (l : Loc) (m : Mem) {e} {es} : evalL P C (e :: es) l m = ((evalE P C e l m).bind fun x m1 => (evalL P C es l m1).bind fun xs m2 => .ok (x :: xs) m2) := by rw [evalL] <;> rfl
@[simp] theorem ev_evalI0 (P : Prog) (C : Calls) (l : Loc) (m : Mem) {e} : evalI P C (.seq e) l m = ((evalE P C e l m).bind fun x m1 => match x with
    | .tup xs => .ok (xs, none) m1
    | .fro xs => .ok (xs.map .int, none) m1
    | .ref k => match m1.list k with
      | some xs => .ok (xs, some (k, xs)) m1
      | none => .err
    | .str s => .ok (s.map fun c => .str [c], none) m1
    | _ => .err) := by rw [evalI] <;> rfl
@[simp] theorem ev_evalI1 (P : Prog) (C : Calls) (l : Loc) (m : Mem) {a} : evalI P C (.range1 a) l m = ((evalE P C a l m).bind fun x m1 => match x with
    | .int j => if -4611686018427387904 ≤ j ∧ j < 4611686018427387904 then .ok ((List.range j.toNat).map fun (i : Nat) => .int i, none) m1 else .err
    | _ => .err) := by rw [evalI] <;> rfl
@[simp] theorem ev_evalI2 (P : Prog) (C : Calls) (l : Loc) (m : Mem) {a} {b} : evalI P C (.range2 a b) l m = ((evalE P C a l m).bind fun x m1 => (evalE P C b l m1).bind fun y m2 => match x, y with
    | .int i, .int j => if (-4611686018427387904 ≤ i ∧ i < 4611686018427387904) ∧ -4611686018427387904 ≤ j ∧ j < 4611686018427387904 then .ok ((List.range (j - i).toNat).map fun (k : Nat) => .int (i + k), none) m2 else .err
    | _, _ => .err) := by rw [evalI] <;> rfl
@[simp] theorem ev_evalI3 (P : Prog) (C : Calls) (l : Loc) (m : Mem) {a} {b} : evalI P C (.zip a b) l m = ((evalE P C a l m).bind fun x m1 => (evalE P C b l m1).bind fun y m2 => zipR x y m2) := by rw [evalI] <;> rfl
@[simp] theorem ev_execS0 (P : Prog) (C : Calls) (l : Loc) (m : Mem) : execS P C (.pass) l m = (.nx l m) := by rw [execS] <;> rfl
@[simp] theorem ev_execS1 (P : Prog) (C : Calls) (l : Loc) (m : Mem) {e} : execS P C (.expr e) l m = (bindF l (evalE P C e l m) fun _ m1 => .nx l m1) := by rw [execS] <;> rfl
@[simp] theorem ev_execS2 (P : Prog) (C : Calls) (l : Loc) (m : Mem) {i} {e} : execS P C (.set i e) l m = (bindF l (evalE P C e l m) fun v m1 => .nx (l.set i (some v)) m1) := by rw [execS] <;> rfl
@[simp] theorem ev_execS3 (P : Prog) (C : Calls) (l : Loc) (m : Mem) {t} {e} : execS P C (.asg t e) l m = (bindF l (evalE P C e l m) fun v m1 => match assignT m1 t v l with
    | some l' => .nx l' m1
    | none => .err) := by rw [execS] <;> rfl
@[simp] theorem ev_execS4 (P : Prog) (C : Calls) (l : Loc) (m : Mem) {i} {o} {e} : execS P C (.aug i o e) l m = (match l[i]? with
    | some (some x) => bindF l (evalE P C e l m) fun y m1 => bindF l (augop o x y m1) fun v m2 => .nx (l.set i (some v)) m2
    | _ => .err) := by rw [execS] <;> rfl
@[simp] theorem ev_execS5 (P : Prog) (C : Calls) (l : Loc) (m : Mem) {o} {f} {e} : execS P C (.setAttr o f e) l m = (bindF l (evalE P C e l m) fun v m1 => bindF l (evalE P C o l m1) fun x m2 => match x with
    | .ref k => match m2[k]? with
      | some (.inst c fs) => if fs.length < 1000 ∧ (P.flds c).contains f = true then .nx l (m2.set k (.inst c (putAttr f v fs))) else .err
      | _ => .err
    | _ => .err) := by rw [execS] <;> rfl
@[simp] theorem ev_execS6 (P : Prog) (C : Calls) (l : Loc) (m : Mem) {o} {i} {e} : execS P C (.setIdx o i e) l m = (bindF l (evalE P C e l m) fun v m1 => bindF l (evalE P C o l m1) fun x m2 => bindF l (evalE P C i l m2) fun y m3 => match x, y with
    | .ref k, j => match m3[k]? with
      | some (.list xs) => match j with
        | .int i => match ixOf xs.length i with
          | some n => .nx l (m3.set k (.list (xs.set n v)))
          | none => .err
        | _ => .err
      | _ => .err
    | _, _ => .err) := by rw [execS] <;> rfl
@[simp] theorem ev_execS7 (P : Prog) (C : Calls) (l : Loc) (m : Mem) {o} {i} : execS P C (.del o i) l m = (bindF l (evalE P C o l m) fun x m1 => bindF l (evalE P C i l m1) fun y m2 => ddelF x y l m2) := by rw [execS] <;> rfl
@[simp] theorem ev_execS16 (P : Prog) (C : Calls) (l : Loc) (m : Mem) {o} {i} {e} : execS P C (.setD o i e) l m = (bindF l (evalE P C e l m) fun v m1 => bindF l (evalE P C o l m1) fun x m2 => bindF l (evalE P C i l m2) fun y m3 => dputF v x y l m3) := by rw [execS] <;> rfl
@[simp] theorem ev_execS17 (P : Prog) (C : Calls) (l : Loc) (m : Mem) {e} {s} : execS P C (.lock e s) l m = (lockF (evalE P C e l m) m fun m1 => execS P C s l m1) := by rw [execS] <;> rfl
@[simp] theorem ev_execS8 (P : Prog) (C : Calls) (l : Loc) (m : Mem) : execS P C (.ret none) l m = (.ret .none m) := by rw [execS] <;> rfl
@[simp] theorem ev_execS9 (P : Prog) (C : Calls) (l : Loc) (m : Mem) {e} : execS P C (.ret (some e)) l m = (bindF l (evalE P C e l m) fun v m1 => .ret v m1) := by rw [execS] <;> rfl
@[simp] theorem ev_execS10 (P : Prog) (C : Calls) (l : Loc) (m : Mem) {c} {a} {b} : execS P C (.ifs c a b) l m = (bindF l (evalE P C c l m) fun v m1 => match truth m1 v with
    | some true => execB P C a l m1
    | some false => execB P C b l m1
    | none => .err) := by rw [execS] <;> rfl
@[simp] theorem ev_execS11 (P : Prog) (C : Calls) (l : Loc) (m : Mem) {c} {b} : execS P C (.whl c b) l m = (whileLoop (evalE P C c) (execB P C b) WMAX l m) := by rw [execS] <;> rfl
@[simp] theorem ev_execS12 (P : Prog) (C : Calls) (l : Loc) (m : Mem) {t} {it} {b} : execS P C (.fr t it b) l m = (match evalI P C it l m with
    | .ok w m1 => forLoop w.2 t (execB P C b) w.1 l m1
    | .exc c fs m1 => .exc l c fs m1
    | .err => .err) := by rw [execS] <;> rfl
@[simp] theorem ev_execS13 (P : Prog) (C : Calls) (l : Loc) (m : Mem) : execS P C (.brk) l m = (.brk l m) := by rw [execS] <;> rfl
@[simp] theorem ev_execS14 (P : Prog) (C : Calls) (l : Loc) (m : Mem) : execS P C (.cnt) l m = (.cnt l m) := by rw [execS] <;> rfl
@[simp] theorem ev_execS15 (P : Prog) (C : Calls) (l : Loc) (m : Mem) : execS P C (.dead) l m = (.err) := by rw [execS] <;> rfl
@[simp] theorem ev_execB0 (P : Prog) (C : Calls) (l : Loc) (m : Mem) : execB P C ([]) l m = (.nx l m) := by rw [execB] <;> rfl
@[simp] theorem ev_execB1 (P : Prog) (C : Calls) (l : Loc) (m : Mem) {s} {r} : execB P C (s :: r) l m = ((execS P C s l m).seq (execB P C r)) := by rw [execB] <;> rfl
@[simp] theorem bf_ok (l : Loc) (v : Val) (m : Mem) (f : Val → Mem → Flow) : bindF l (.ok v m) f = f v m := id rfl
@[simp] theorem fs_nx (l : Loc) (m : Mem) (f : Loc → Mem → Flow) : (Flow.nx l m).seq f = f l m := id rfl
@[simp] theorem fs_ret (v : Val) (m : Mem) (f : Loc → Mem → Flow) : (Flow.ret v m).seq f = .ret v m := id rfl
@[simp] theorem fs_brk (v : Loc) (m : Mem) (f : Loc → Mem → Flow) : (Flow.brk v m).seq f = .brk v m := id rfl
@[simp] theorem fs_cnt (v : Loc) (m : Mem) (f : Loc → Mem → Flow) : (Flow.cnt v m).seq f = .cnt v m := id rfl
@[simp] theorem ro_nx (l : Loc) (m : Mem) : retOf (.nx l m) = .ok .none m := id rfl
@[simp] theorem ro_ret (v : Val) (m : Mem) : retOf (.ret v m) = .ok v m := id rfl
@[simp] theorem intR_ok (i : Int) (m : Mem) (f : Int → Res Val) : intR (.int i) m f = f i := id rfl
/-- an item of a list of numbers -/
theorem idx_list {m : Mem} {r : Nat} {xs : List Val} {k : Int} (h : m.list r = some xs) : idxop m (.ref r) (.int k) = atIx xs k := by
  unfold Mem.list at h
  unfold idxop
  cases e : m[r]? with
  | none => rw [e] at h; cases h
  | some o =>
    rw [e] at h
    cases o with
    | list ys => cases h; simp only [e]
    | _ => cases h
theorem at_nat {α : Type} {xs : List α} {k : Int} (h0 : 0 ≤ k) (h : k.toNat < xs.length) : atIx xs k = some xs[k.toNat] := by
  unfold atIx ixOf
  rw [if_pos h0, if_pos (by omega)]
  simp [h]
theorem seq_list {m : Mem} {r : Nat} {xs : List Val} (h : m.list r = some xs) : m.seq (.ref r) = some xs := h
theorem blt_list {m : Mem} {v : Val} {xs : List Val} (h : m.seq v = some xs) : bltop .list [v] m = .ok (.ref m.length) (m ++ [.list xs]) := by
  unfold bltop; simp only [h]
theorem blt_tuple {m : Mem} {v : Val} {xs : List Val} (h : m.seq v = some xs) : bltop .tuple [v] m = .ok (.tup xs) m := by
  unfold bltop; simp only [h]
@[simp] theorem pl_int (i : Int) : (Val.int i).pl = true := by unfold Val.pl; rfl
@[simp] theorem pl_bool (i : Bool) : (Val.bool i).pl = true := by unfold Val.pl; rfl
@[simp] theorem pl_none : Val.none.pl = true := by unfold Val.pl; rfl
@[simp] theorem pl_str (i : List Nat) : (Val.str i).pl = true := by unfold Val.pl; rfl
@[simp] theorem pl_tup (xs : List Val) : (Val.tup xs).pl = Val.plL xs := by rw [Val.pl]
@[simp] theorem plL_nil : Val.plL [] = true := by unfold Val.plL; rfl
@[simp] theorem plL_cons (x : Val) (xs : List Val) : Val.plL (x :: xs) = (x.pl && Val.plL xs) := by rw [Val.plL]
@[simp] theorem dp_int (i : Int) : (Val.int i).depth = 0 := by unfold Val.depth; rfl
@[simp] theorem dp_bool (i : Bool) : (Val.bool i).depth = 0 := by unfold Val.depth; rfl
@[simp] theorem dp_none : Val.none.depth = 0 := by unfold Val.depth; rfl
@[simp] theorem dp_str (i : List Nat) : (Val.str i).depth = 0 := by unfold Val.depth; rfl
@[simp] theorem dp_tup (xs : List Val) : (Val.tup xs).depth = Val.depthL xs + 1 := by rw [Val.depth]
@[simp] theorem dpL_nil : Val.depthL [] = 0 := by unfold Val.depthL; rfl
@[simp] theorem dpL_cons (x : Val) (xs : List Val) : Val.depthL (x :: xs) = max x.depth (Val.depthL xs) := by rw [Val.depthL]
mutual
theorem eqv_refl : ∀ v : Val, v.pl = true → v.eqv v = true
  | .none, _ => by simp [Val.eqv]
  | .bool _, _ => by simp [Val.eqv]
  | .int _, _ => by simp [Val.eqv]
  | .str _, _ => by simp [Val.eqv]
  | .tup xs, h => by rw [Val.eqv]; exact eqvL_refl xs (by simpa using h)
  | .fro _, h => by simp [Val.pl] at h
  | .ref _, h => by simp [Val.pl] at h
theorem eqvL_refl : ∀ v : List Val, Val.plL v = true → Val.eqvL v v = true
  | [], _ => by simp [Val.eqvL]
  | x :: xs, h => by
    rw [plL_cons, Bool.and_eq_true] at h
    rw [Val.eqvL, eqv_refl x h.1, eqvL_refl xs h.2]; rfl
end
theorem plL_all : ∀ {xs : List Val}, (∀ x ∈ xs, x.pl = true) → Val.plL xs = true
  | [], _ => by simp
  | x :: xs, h => by rw [plL_cons, h x List.mem_cons_self, plL_all fun y hy => h y (List.mem_cons_of_mem _ hy)]; rfl
theorem dpL_all {n : Nat} : ∀ {xs : List Val}, (∀ x ∈ xs, x.depth ≤ n) → Val.depthL xs ≤ n
  | [], _ => by simp
  | x :: xs, h => by rw [dpL_cons]; exact Nat.max_le.mpr ⟨h x List.mem_cons_self, dpL_all fun y hy => h y (List.mem_cons_of_mem _ hy)⟩
/-- two lists of the same data are equal -/
theorem ne_lists {m : Mem} {a b : Nat} {xs : List Val} (h1 : m.list a = some xs) (h2 : m.list b = some xs) (h : datL xs = true) : cmpop .ne (.ref a) (.ref b) m = some false := by
  show (eqop m (.ref a) (.ref b)).map not = _
  unfold eqop
  simp only [h1, h2, h, Bool.and_self, if_true, Option.map_some]
  have : Val.plL xs = true := by unfold datL at h; rw [Bool.and_eq_true] at h; exact h.1
  rw [eqvL_refl xs this]; rfl
theorem datL_of {xs : List Val} (h : ∀ x ∈ xs, x.pl = true ∧ x.depth ≤ 59) : datL xs = true := by
  unfold datL
  rw [plL_all fun x hx => (h x hx).1, Bool.true_and]
  exact decide_eq_true (dpL_all fun x hx => (h x hx).2)
/-- a comprehension that changes nothing -/
theorem comp_pure {chk : Option (Nat × List Val)} {el : Val → Mem → Res (Option Val)} {m : Mem} (f : Val → Option Val) (hst : still chk m) : ∀ {xs : List Val}, (∀ x ∈ xs, el x m = .ok (f x) m) → compLoop chk el xs m = .ok (xs.filterMap f) m
  | [], _ => by rw [compLoop, if_pos hst]; rfl
  | x :: xs, h => by
    rw [compLoop, if_pos hst, h x List.mem_cons_self]
    simp only [Res.bind]
    rw [comp_pure f hst fun y hy => h y (List.mem_cons_of_mem _ hy)]
    cases q : f x <;> simp [List.filterMap_cons, q]
theorem compEnd_ok {m : Mem} {ys : List Val} (h : ys.length ≤ SZ) : compEnd (.ok ys m) = .ok (.ref m.length) (m ++ [.list ys]) := if_pos h
theorem gc_set {m0 g : Mem} {k : Nat} {o : Ob} {v : Val} (hk : k < m0.length) (hu : o.under m0.length = true) (hv : v.under m0.length = true) : gc m0 (.ok v (m0.set k o ++ g)) = .ok v (m0.set k o) := by
  unfold gc
  have e : (m0.set k o ++ g).take m0.length = m0.set k o := by
    rw [List.take_append_of_le_length (by simp)]
    exact List.take_of_length_le (by simp)
  have hc : m0.length ≤ (m0.set k o ++ g).length ∧ ∀ (i : Nat) (ob : Ob), (m0.set k o)[i]? = some ob → m0[i]? = some ob ∨ ob.under m0.length = true := by
    refine ⟨by simp, fun i ob q => ?_⟩
    by_cases h : k = i
    · subst h
      rw [List.getElem?_set_self hk] at q
      cases q
      exact .inr hu
    · rw [List.getElem?_set_ne h] at q
      exact .inl q
  simp only [e]
  rw [if_pos (by rw [e]; exact hc), if_pos hv]
theorem list_set {m : Mem} {k j : Nat} {o : Ob} (h : k ≠ j) : Mem.list (m.set k o) j = m.list j := by
  unfold Mem.list
  rw [List.getElem?_set_ne h]
theorem list_set_self {m : Mem} {k : Nat} {xs : List Val} (h : k < m.length) : Mem.list (m.set k (.list xs)) k = some xs := by
  unfold Mem.list
  rw [List.getElem?_set_self h]
theorem get_of_list {m : Mem} {k : Nat} {xs : List Val} (h : m.list k = some xs) : m[k]? = some (.list xs) := by
  unfold Mem.list at h
  cases q : m[k]? with
  | none => rw [q] at h; cases h
  | some o =>
    rw [q] at h
    cases o with
    | list ys => cases h; rfl
    | _ => cases h
theorem sort_pairs {m : Mem} {k : Nat} {vs : List Val} {ps : List (Int × Int)} (h : m.list k = some vs) (hp : pairsOf vs = some ps) : sortPR (.ref k) m = .ok (.ref m.length) (m ++ [.list ((sortPs ps).map pv)]) := by
  unfold sortPR; simp only [get_of_list h, hp]
theorem sort_keys {m : Mem} {k : Nat} {vs : List Val} {ts : List (List (Int ⊕ List Nat))} (h : m.list k = some vs) (h0 : pairsOf vs = none) (hk : keysOf vs = some ts) (ha : alikeK ts = true ∧ ts.length ≤ SZ) : sortPR (.ref k) m = .ok (.ref m.length) (m ++ [.list ((sortKs ts).map fun t => .tup (t.map itV))]) := by
  unfold sortPR; simp only [get_of_list h, h0]; unfold sortKR; simp only [hk]; rw [if_pos ha]
theorem sort_dict {m : Mem} {k : Nat} {kvs : List (Val × Val)} {ts : List (List (Int ⊕ List Nat))} (h : m[k]? = some (.dict true kvs)) (hk : keysOf (kvs.map (·.1)) = some ts) (ha : alikeK ts = true ∧ ts.length ≤ SZ) : sortPR (.ref k) m = .ok (.ref m.length) (m ++ [.list ((sortKs ts).map fun t => .tup (t.map itV))]) := by
  unfold sortPR; simp only [h]; unfold sortKR; simp only [hk]; rw [if_pos ha]
theorem sortKs_perm (ts : List (List (Int ⊕ List Nat))) : (sortKs ts).Perm ts := List.mergeSort_perm ts _
theorem ixOf_nat {n : Nat} {k : Int} (h0 : 0 ≤ k) (h : k.toNat < n) : ixOf n k = some k.toNat := by
  unfold ixOf
  rw [if_pos h0, if_pos (by omega)]
theorem len_list {m : Mem} {k : Nat} {xs : List Val} {n : Int} (h : m.list k = some xs) (e : (xs.length : Int) = n) : bltop .len [.ref k] m = .ok (.int n) m := by
  unfold bltop lenop
  simp only [get_of_list h]
  rw [e]
theorem len_dict {m : Mem} {k : Nat} {kvs : List (Val × Val)} {n : Int} (h : m[k]? = some (.dict true kvs)) (e : (kvs.length : Int) = n) : bltop .len [.ref k] m = .ok (.int n) m := by
  unfold bltop lenop
  simp only [h]
  rw [e]
theorem sort_tup {m : Mem} {vs : List Val} {ts : List (List (Int ⊕ List Nat))} (hk : keysOf vs = some ts) (ha : alikeK ts = true ∧ ts.length ≤ SZ) : sortPR (.tup vs) m = .ok (.ref m.length) (m ++ [.list ((sortKs ts).map fun t => .tup (t.map itV))]) := by
  unfold sortPR sortKR; simp only [hk]; rw [if_pos ha]
theorem gc_set0 {m0 : Mem} {k : Nat} {o : Ob} {v : Val} (hk : k < m0.length) (hu : o.under m0.length = true) (hv : v.under m0.length = true) : gc m0 (.ok v (m0.set k o)) = .ok v (m0.set k o) := by
  have := gc_set (g := []) hk hu hv
  rwa [List.append_nil] at this
end Py

namespace L34
open PySem PySem.Spec PyProof.Rows L2 Py
/-! ### the text, its plain program -/
def top (i : Nat) : Stmt := PySem.Challenge.pw_oncecoin_k34_promised_stays_there.main.body.getD i (.Pass ⟨0, 0, 0, 0⟩)
def clsBody : Stmt → List Stmt
  | .ClassDef _ _ _ b _ _ _ _ _ _ _ => b
  | _ => []
def b__wall_1 : List S := [.pass]
def f__wall : Fn := ⟨1, 1, [(.whl (.lit (.bool true)) b__wall_1)]⟩
def d__wall : Df := ⟨.fn "_wall", "_wall", "_wall", "_wall", top 0, (["k"] : List PySem.Str), (["k"] : List PySem.Str), f__wall, none⟩
theorem o__wall : DfOk d__wall := ⟨(fun _ K f fd F => F.bindsN (fun _ _ _ _ _ _ us hl => match us, hl with | [_], _ => rfl)), (fun x g e => by cases e), ⟨rfl, rfl, rfl, by decide +kernel, rfl, by decide +kernel, by decide +kernel⟩, rfl, rfl⟩
def f_is_between : Fn := ⟨3, 3, [(.ret (some (.band (.isi (.var 0) .int) (.band (.bnot (.isi (.var 0) .bool)) (.chain .le .le (.var 1) (.var 0) (.var 2))))))]⟩
def d_is_between : Df := ⟨.fn "is_between", "is_between", "is_between", "is_between", top 19, (["value", "least", "most"] : List PySem.Str), (["value", "least", "most"] : List PySem.Str), f_is_between, none⟩
theorem o_is_between : DfOk d_is_between := ⟨(fun _ K f fd F => F.bindsN (fun _ _ _ _ _ _ us hl => match us, hl with | [_, _, _], _ => rfl)), (fun x g e => by cases e), ⟨rfl, rfl, rfl, by decide +kernel, rfl, by decide +kernel, by decide +kernel⟩, rfl, rfl⟩
def b_is_word_1 : List S := [(.ifs (.cmp .nmem (.var 1) (.glob "LETTERS")) [(.ret (some (.lit (.bool false))))] [])]
def f_is_word : Fn := ⟨1, 2, [(.ifs (.bor (.bnot (.isi (.var 0) .str)) (.bnot (.chain .le .le (.lit (.int 1)) (.blt .len [(.var 0)]) (.glob "MOST_LETTERS")))) [(.ret (some (.lit (.bool false))))] []), (.fr (.name 1) (.seq (.var 0)) b_is_word_1), (.ret (some (.lit (.bool true))))]⟩
def d_is_word : Df := ⟨.fn "is_word", "is_word", "is_word", "is_word", top 20, (["value", "sign"] : List PySem.Str), (["value"] : List PySem.Str), f_is_word, none⟩
theorem o_is_word : DfOk d_is_word := ⟨(fun _ K f fd F => F.bindsN (fun _ _ _ _ _ _ us hl => match us, hl with | [_], _ => rfl)), (fun x g e => by cases e), ⟨rfl, rfl, rfl, by decide +kernel, rfl, by decide +kernel, by decide +kernel⟩, rfl, rfl⟩
def f_is_id : Fn := ⟨1, 1, [(.ret (some (.band (.isi (.var 0) .tuple) (.call "fit" [(.var 0), (.tup [(.lit (.str [99, 117, 115, 116, 111, 109, 101, 114])), (.lit (.str [110, 117, 109, 98, 101, 114]))])]))))]⟩
def d_is_id : Df := ⟨.fn "is_id", "is_id", "is_id", "is_id", top 21, (["value"] : List PySem.Str), (["value"] : List PySem.Str), f_is_id, none⟩
theorem o_is_id : DfOk d_is_id := ⟨(fun _ K f fd F => F.bindsN (fun _ _ _ _ _ _ us hl => match us, hl with | [_], _ => rfl)), (fun x g e => by cases e), ⟨rfl, rfl, rfl, by decide +kernel, rfl, by decide +kernel, by decide +kernel⟩, rfl, rfl⟩
def b_are_lines_1 : List S := [(.ifs (.bor (.bnot (.isi (.var 2) .tuple)) (.bor (.bnot (.call "fit" [(.var 2), (.tup [(.lit (.str [119, 111, 114, 100])), (.lit (.str [99, 111, 117, 110, 116]))])])) (.cmp .le (.idx (.var 2) (.lit (.int 0))) (.var 1)))) [(.ret (some (.lit (.bool false))))] []), (.set 1 (.idx (.var 2) (.lit (.int 0))))]
def f_are_lines : Fn := ⟨1, 3, [(.ifs (.bor (.bnot (.isi (.var 0) .tuple)) (.bnot (.chain .le .le (.lit (.int 1)) (.blt .len [(.var 0)]) (.glob "MOST_LINES")))) [(.ret (some (.lit (.bool false))))] []), (.set 1 (.lit (.str []))), (.fr (.name 2) (.seq (.var 0)) b_are_lines_1), (.ret (some (.lit (.bool true))))]⟩
def d_are_lines : Df := ⟨.fn "are_lines", "are_lines", "are_lines", "are_lines", top 22, (["value", "ahead", "line"] : List PySem.Str), (["value"] : List PySem.Str), f_are_lines, none⟩
theorem o_are_lines : DfOk d_are_lines := ⟨(fun _ K f fd F => F.bindsN (fun _ _ _ _ _ _ us hl => match us, hl with | [_], _ => rfl)), (fun x g e => by cases e), ⟨rfl, rfl, rfl, by decide +kernel, rfl, by decide +kernel, by decide +kernel⟩, rfl, rfl⟩
def f_fits : Fn := ⟨2, 4, [(.ifs (.tin false "RANGES" (.var 1)) [(.asg (.tup [(.name 2), (.name 3)]) (.tix "RANGES" (.var 1))), (.ret (some (.call "is_between" [(.var 0), (.var 2), (.var 3)])))] []), (.ifs (.cmp .eq (.var 1) (.lit (.str [119, 111, 114, 100]))) [(.ret (some (.call "is_word" [(.var 0)])))] []), (.ifs (.cmp .eq (.var 1) (.lit (.str [105, 100]))) [(.ret (some (.call "is_id" [(.var 0)])))] []), (.ifs (.cmp .eq (.var 1) (.lit (.str [108, 105, 110, 101, 115]))) [(.ret (some (.call "are_lines" [(.var 0)])))] []), (.ifs (.cmp .eq (.var 1) (.lit (.str [102, 108, 97, 103]))) [(.ret (some (.isi (.var 0) .bool)))] []), (.ret (some (.bor (.cmp .isn (.var 0) (.lit .none)) (.call "is_word" [(.var 0)]))))]⟩
def d_fits : Df := ⟨.fn "fits", "fits", "fits", "fits", top 23, (["value", "kind", "least", "most"] : List PySem.Str), (["value", "kind"] : List PySem.Str), f_fits, none⟩
theorem o_fits : DfOk d_fits := ⟨(fun _ K f fd F => F.bindsN (fun _ _ _ _ _ _ us hl => match us, hl with | [_, _], _ => rfl)), (fun x g e => by cases e), ⟨rfl, rfl, rfl, by decide +kernel, rfl, by decide +kernel, by decide +kernel⟩, rfl, rfl⟩
def b_fit_1 : List S := [(.ifs (.bnot (.call "fits" [(.var 2), (.var 3)])) [(.ret (some (.lit (.bool false))))] [])]
def f_fit : Fn := ⟨2, 4, [(.ifs (.cmp .ne (.blt .len [(.var 0)]) (.blt .len [(.var 1)])) [(.ret (some (.lit (.bool false))))] []), (.fr (.tup [(.name 2), (.name 3)]) (.zip (.var 0) (.var 1)) b_fit_1), (.ret (some (.lit (.bool true))))]⟩
def d_fit : Df := ⟨.fn "fit", "fit", "fit", "fit", top 24, (["values", "kinds", "value", "kind"] : List PySem.Str), (["values", "kinds"] : List PySem.Str), f_fit, none⟩
theorem o_fit : DfOk d_fit := ⟨(fun _ K f fd F => F.bindsN (fun _ _ _ _ _ _ us hl => match us, hl with | [_, _], _ => rfl)), (fun x g e => by cases e), ⟨rfl, rfl, rfl, by decide +kernel, rfl, by decide +kernel, by decide +kernel⟩, rfl, rfl⟩
def f_has_name : Fn := ⟨2, 2, [(.ifs (.cmp .mem (.var 1) (.glob "OFFICE_NAMES")) [(.ret (some (.cmp .eq (.var 0) (.glob "OFFICE"))))] []), (.ifs (.cmp .mem (.var 1) (.glob "STORE_NAMES")) [(.ret (some (.cmp .mem (.var 0) (.glob "STORES"))))] []), (.ret (some (.cmp .eq (.var 0) (.glob "BANK"))))]⟩
def d_has_name : Df := ⟨.fn "has_name", "has_name", "has_name", "has_name", top 25, (["house", "name"] : List PySem.Str), (["house", "name"] : List PySem.Str), f_has_name, none⟩
theorem o_has_name : DfOk d_has_name := ⟨(fun _ K f fd F => F.bindsN (fun _ _ _ _ _ _ us hl => match us, hl with | [_, _], _ => rfl)), (fun x g e => by cases e), ⟨rfl, rfl, rfl, by decide +kernel, rfl, by decide +kernel, by decide +kernel⟩, rfl, rfl⟩
def f_is_key : Fn := ⟨1, 1, [(.ifs (.bor (.bnot (.isi (.var 0) .tuple)) (.bor (.cmp .lt (.blt .len [(.var 0)]) (.lit (.int 2))) (.bnot (.isi (.idx (.var 0) (.lit (.int 1))) .str)))) [(.ret (some (.lit (.bool false))))] []), (.ifs (.bor (.tin true "KEY_PARTS" (.idx (.var 0) (.lit (.int 1)))) (.bnot (.call "fit" [(.sliceL (.var 0) (.lit (.int 2))), (.tix "KEY_PARTS" (.idx (.var 0) (.lit (.int 1))))]))) [(.ret (some (.lit (.bool false))))] []), (.ret (some (.band (.call "is_between" [(.idx (.var 0) (.lit (.int 0))), (.glob "OFFICE"), (.glob "BANK")]) (.call "has_name" [(.idx (.var 0) (.lit (.int 0))), (.idx (.var 0) (.lit (.int 1)))]))))]⟩
def d_is_key : Df := ⟨.fn "is_key", "is_key", "is_key", "is_key", top 26, (["value"] : List PySem.Str), (["value"] : List PySem.Str), f_is_key, none⟩
theorem o_is_key : DfOk d_is_key := ⟨(fun _ K f fd F => F.bindsN (fun _ _ _ _ _ _ us hl => match us, hl with | [_], _ => rfl)), (fun x g e => by cases e), ⟨rfl, rfl, rfl, by decide +kernel, rfl, by decide +kernel, by decide +kernel⟩, rfl, rfl⟩
def f_is_key_of : Fn := ⟨2, 2, [(.ret (some (.band (.call "is_key" [(.var 1)]) (.cmp .eq (.idx (.var 1) (.lit (.int 0))) (.var 0)))))]⟩
def d_is_key_of : Df := ⟨.fn "is_key_of", "is_key_of", "is_key_of", "is_key_of", top 27, (["house", "value"] : List PySem.Str), (["house", "value"] : List PySem.Str), f_is_key_of, none⟩
theorem o_is_key_of : DfOk d_is_key_of := ⟨(fun _ K f fd F => F.bindsN (fun _ _ _ _ _ _ us hl => match us, hl with | [_, _], _ => rfl)), (fun x g e => by cases e), ⟨rfl, rfl, rfl, by decide +kernel, rfl, by decide +kernel, by decide +kernel⟩, rfl, rfl⟩
def f_is_amount : Fn := ⟨1, 1, [(.ifs (.bnot (.call "is_key" [(.var 0)])) [.dead] []), (.ret (some (.cmp .nmem (.idx (.var 0) (.lit (.int 1))) (.glob "RECORD_NAMES"))))]⟩
def d_is_amount : Df := ⟨.fn "is_amount", "is_amount", "is_amount", "is_amount", top 28, (["key"] : List PySem.Str), (["key"] : List PySem.Str), f_is_amount, none⟩
theorem o_is_amount : DfOk d_is_amount := ⟨(fun _ K f fd F => F.bindsN (fun _ _ _ _ _ _ us hl => match us, hl with | [_], _ => rfl)), (fun x g e => by cases e), ⟨rfl, rfl, rfl, by decide +kernel, rfl, by decide +kernel, by decide +kernel⟩, rfl, rfl⟩
def f_first_value : Fn := ⟨1, 1, [(.ifs (.bor (.call "is_amount" [(.var 0)]) (.cmp .eq (.idx (.var 0) (.lit (.int 1))) (.lit (.str [114, 97, 116, 101])))) [(.ret (some (.lit (.int 0))))] []), (.ret (some (.lit .none)))]⟩
def d_first_value : Df := ⟨.fn "first_value", "first_value", "first_value", "first_value", top 29, (["key"] : List PySem.Str), (["key"] : List PySem.Str), f_first_value, none⟩
theorem o_first_value : DfOk d_first_value := ⟨(fun _ K f fd F => F.bindsN (fun _ _ _ _ _ _ us hl => match us, hl with | [_], _ => rfl)), (fun x g e => by cases e), ⟨rfl, rfl, rfl, by decide +kernel, rfl, by decide +kernel, by decide +kernel⟩, rfl, rfl⟩
def f_value_in : Fn := ⟨2, 2, [(.ifs (.din false (.var 1) (.var 0)) [(.ret (some (.dget (.var 0) (.var 1))))] []), (.ret (some (.call "first_value" [(.var 1)])))]⟩
def d_value_in : Df := ⟨.fn "value_in", "value_in", "value_in", "value_in", top 30, (["values", "key"] : List PySem.Str), (["values", "key"] : List PySem.Str), f_value_in, none⟩
theorem o_value_in : DfOk d_value_in := ⟨(fun _ K f fd F => F.bindsN (fun _ _ _ _ _ _ us hl => match us, hl with | [_, _], _ => rfl)), (fun x g e => by cases e), ⟨rfl, rfl, rfl, by decide +kernel, rfl, by decide +kernel, by decide +kernel⟩, rfl, rfl⟩
def b_carry_out_1 : List S := [(.ifs (.call "is_amount" [(.var 2)]) [(.setD (.var 0) (.var 2) (.bin .add (.call "value_in" [(.var 0), (.var 2)]) (.var 3)))] [(.setD (.var 0) (.var 2) (.var 3))])]
def f_carry_out : Fn := ⟨2, 4, [(.fr (.tup [(.name 2), (.name 3)]) (.seq (.var 1)) b_carry_out_1)]⟩
def d_carry_out : Df := ⟨.fn "carry_out", "carry_out", "carry_out", "carry_out", top 31, (["values", "writes", "key", "what"] : List PySem.Str), (["values", "writes"] : List PySem.Str), f_carry_out, none⟩
theorem o_carry_out : DfOk d_carry_out := ⟨(fun _ K f fd F => F.bindsN (fun _ _ _ _ _ _ us hl => match us, hl with | [_, _], _ => rfl)), (fun x g e => by cases e), ⟨rfl, rfl, rfl, by decide +kernel, rfl, by decide +kernel, by decide +kernel⟩, rfl, rfl⟩
def b__law_pool_1 : List S := [(.expr (.bm (.var 2) .append [(.bin .mod (.blt .int [(.var 5)]) (.lit (.int 2520)))])), (.set 5 (.bin .fdiv (.var 5) (.lit (.int 2520)))), (.ifs (.cmp .eq (.var 5) (.lit (.int 0))) [.brk] [])]
def b__law_pool_2 : List S := [(.set 5 (.blt .int [(.blt .abs [(.var 4)])])), (.ifs (.cmp .ge (.var 5) (.bin .pow (.lit (.int 10)) (.lit (.int 18)))) [(.fr (.name 6) (.range1 (.blt .min [(.lit (.int 60)), (.bin .sub (.var 1) (.blt .len [(.var 2)]))])) b__law_pool_1)] [(.set 7 (.bin .mod (.blt .int [(.bin .add (.bin .add (.bin .mul (.var 4) (.lit (.int 48271))) (.bin .mul (.blt .len [(.var 2)]) (.lit (.int 69621)))) (.lit (.int 11)))]) (.lit (.int 2147483647)))), (.set 8 (.bin .mod (.blt .int [(.bin .add (.bin .mul (.var 7) (.var 7)) (.lit (.int 5)))]) (.lit (.int 2147483629)))), (.expr (.bm (.var 2) .append [(.bin .mod (.blt .int [(.bin .fdiv (.var 8) (.lit (.int 7)))]) (.lit (.int 2520)))])), (.expr (.bm (.var 2) .append [(.bin .mod (.bin .mod (.blt .int [(.bin .add (.bin .mul (.var 8) (.lit (.int 16807))) (.var 7))]) (.lit (.int 2147483587))) (.lit (.int 2520)))]))]), (.set 3 (.bin .mod (.blt .int [(.bin .add (.bin .mul (.var 3) (.lit (.int 263))) (.var 4))]) (.lit (.int 1000003))))]
def b__law_pool_3 : List S := [(.set 3 (.bin .mod (.blt .int [(.bin .add (.bin .add (.bin .mul (.var 3) (.lit (.int 48271))) (.bin .mul (.var 6) (.lit (.int 69621)))) (.lit (.int 17)))]) (.lit (.int 2147483647)))), (.expr (.bm (.var 2) .append [(.bin .mod (.blt .int [(.bin .fdiv (.var 3) (.lit (.int 5)))]) (.lit (.int 2520)))]))]
def f__law_pool : Fn := ⟨2, 9, [(.set 2 (.lst [])), (.set 3 (.lit (.int 1))), (.fr (.name 4) (.seq (.var 0)) b__law_pool_2), (.fr (.name 6) (.range1 (.var 1)) b__law_pool_3), (.set 2 (.sliceH (.var 2) (.var 1))), (.expr (.bm (.var 2) .reverse [])), (.ret (some (.var 2)))]⟩
def d__law_pool : Df := ⟨.fn "_law_pool", "_law_pool", "_law_pool", "_law_pool", top 35, (["_law_script", "_law_many", "_law_pool_here", "_law_total", "_law_cell", "_law_rest", "_law_k", "_law_first", "_law_second"] : List PySem.Str), (["_law_script", "_law_many"] : List PySem.Str), f__law_pool, none⟩
theorem o__law_pool : DfOk d__law_pool := ⟨(fun _ K f fd F => F.bindsN (fun _ _ _ _ _ _ us hl => match us, hl with | [_, _], _ => rfl)), (fun x g e => by cases e), ⟨rfl, rfl, rfl, by decide +kernel, rfl, by decide +kernel, by decide +kernel⟩, rfl, rfl⟩
def f__law_draw : Fn := ⟨2, 2, [(.ifs (.cmp .eq (.blt .len [(.var 0)]) (.lit (.int 0))) [(.ret (some (.lit (.int 0))))] []), (.ret (some (.bin .mod (.blt .int [(.bm (.var 0) .pop [])]) (.var 1))))]⟩
def d__law_draw : Df := ⟨.fn "_law_draw", "_law_draw", "_law_draw", "_law_draw", top 36, (["_law_pool_here", "_law_many"] : List PySem.Str), (["_law_pool_here", "_law_many"] : List PySem.Str), f__law_draw, none⟩
theorem o__law_draw : DfOk d__law_draw := ⟨(fun _ K f fd F => F.bindsN (fun _ _ _ _ _ _ us hl => match us, hl with | [_, _], _ => rfl)), (fun x g e => by cases e), ⟨rfl, rfl, rfl, by decide +kernel, rfl, by decide +kernel, by decide +kernel⟩, rfl, rfl⟩
def f__law_word : Fn := ⟨3, 6, [(.set 3 (.lit (.str [97, 98, 99, 100, 101, 102, 103, 104, 105, 106, 107, 108, 109, 110, 111, 112, 113, 114, 115, 116, 117, 118, 119, 120, 121, 122]))), (.set 4 (.blt .int [(.bin .add (.bin .mul (.var 0) (.lit (.int 2520))) (.var 1))])), (.ret (some (.join (.lit (.str [])) (.comp (.idx (.var 3) (.bin .mod (.blt .int [(.bin .add (.bin .fdiv (.var 4) (.idx (.lst [(.lit (.int 1)), (.lit (.int 26)), (.lit (.int 676)), (.lit (.int 17576))]) (.bin .mod (.var 5) (.lit (.int 4))))) (.bin .fdiv (.bin .mul (.bin .fdiv (.var 5) (.lit (.int 4))) (.var 4)) (.lit (.int 7))))]) (.lit (.int 26)))) (.name 5) (.range1 (.var 2))))))]⟩
def d__law_word : Df := ⟨.fn "_law_word", "_law_word", "_law_word", "_law_word", top 37, (["_law_one", "_law_two", "_law_size", "_law_letters", "_law_cell", "_law_k"] : List PySem.Str), (["_law_one", "_law_two", "_law_size"] : List PySem.Str), f__law_word, none⟩
theorem o__law_word : DfOk d__law_word := ⟨(fun _ K f fd F => F.bindsN (fun _ _ _ _ _ _ us hl => match us, hl with | [_, _, _], _ => rfl)), (fun x g e => by cases e), ⟨rfl, rfl, rfl, by decide +kernel, rfl, by decide +kernel, by decide +kernel⟩, rfl, rfl⟩
def f__law_id : Fn := ⟨2, 4, [(.set 2 (.bin .add (.lit (.int 1)) (.bin .mod (.blt .int [(.bin .fdiv (.var 0) (.lit (.int 5)))]) (.lit (.int 10))))), (.set 3 (.bin .add (.bin .mul (.blt .int [(.bin .fdiv (.var 1) (.var 2))]) (.idx (.lst [(.lit (.int 1)), (.lit (.int 2)), (.lit (.int 5)), (.lit (.int 100)), (.lit (.int 998))]) (.bin .mod (.blt .int [(.var 0)]) (.lit (.int 5))))) (.var 0))), (.ret (some (.tup [(.bin .mod (.blt .int [(.bin .add (.var 0) (.var 1))]) (.lit (.int 10))), (.bin .add (.lit (.int 1)) (.bin .mod (.blt .int [(.var 3)]) (.lit (.int 999))))])))]⟩
def d__law_id : Df := ⟨.fn "_law_id", "_law_id", "_law_id", "_law_id", top 38, (["_law_step", "_law_k", "_law_group", "_law_number"] : List PySem.Str), (["_law_step", "_law_k"] : List PySem.Str), f__law_id, none⟩
theorem o__law_id : DfOk d__law_id := ⟨(fun _ K f fd F => F.bindsN (fun _ _ _ _ _ _ us hl => match us, hl with | [_, _], _ => rfl)), (fun x g e => by cases e), ⟨rfl, rfl, rfl, by decide +kernel, rfl, by decide +kernel, by decide +kernel⟩, rfl, rfl⟩
def f__law_large : Fn := ⟨2, 5, [(.set 2 (.call "_law_draw" [(.var 0), (.lit (.int 2520))])), (.set 3 (.blt .int [(.bin .add (.bin .mul (.var 2) (.lit (.int 2520))) (.call "_law_draw" [(.var 0), (.lit (.int 2520))]))])), (.set 4 (.blt .int [(.bin .add (.bin .mul (.var 3) (.lit (.int 2520))) (.call "_law_draw" [(.var 0), (.lit (.int 2520))]))])), (.ret (some (.idx (.lst [(.bin .mod (.blt .int [(.var 2)]) (.lit (.int 4))), (.bin .mod (.blt .int [(.var 2)]) (.lit (.int 30))), (.bin .mod (.blt .int [(.var 3)]) (.bin .add (.var 1) (.lit (.int 1)))), (.bin .mod (.blt .int [(.var 4)]) (.bin .add (.var 1) (.lit (.int 1))))]) (.bin .mod (.blt .int [(.var 4)]) (.lit (.int 4))))))]⟩
def d__law_large : Df := ⟨.fn "_law_large", "_law_large", "_law_large", "_law_large", top 39, (["_law_pool_here", "_law_most", "_law_one", "_law_two", "_law_three"] : List PySem.Str), (["_law_pool_here", "_law_most"] : List PySem.Str), f__law_large, none⟩
theorem o__law_large : DfOk d__law_large := ⟨(fun _ K f fd F => F.bindsN (fun _ _ _ _ _ _ us hl => match us, hl with | [_, _], _ => rfl)), (fun x g e => by cases e), ⟨rfl, rfl, rfl, by decide +kernel, rfl, by decide +kernel, by decide +kernel⟩, rfl, rfl⟩
def f__law_other : Fn := ⟨2, 5, [(.set 2 (.lit (.str [97, 98, 99, 100, 101, 102, 103, 104, 105, 106, 107, 108, 109, 110, 111, 112, 113, 114, 115, 116, 117, 118, 119, 120, 121, 122]))), (.set 3 (.call "_law_draw" [(.var 0), (.blt .len [(.var 1)])])), (.set 4 (.idx (.var 2) (.bin .mod (.blt .int [(.bin .add (.bin .add (.sm1 .find (.var 2) (.idx (.var 1) (.var 3))) (.lit (.int 1))) (.call "_law_draw" [(.var 0), (.lit (.int 25))]))]) (.lit (.int 26))))), (.ifs (.band (.cmp .lt (.blt .len [(.var 1)]) (.lit (.int 8))) (.cmp .eq (.call "_law_draw" [(.var 0), (.lit (.int 2))]) (.lit (.int 0)))) [(.ret (some (.bin .add (.var 1) (.var 4))))] []), (.ret (some (.bin .add (.bin .add (.sliceH (.var 1) (.var 3)) (.var 4)) (.sliceL (.var 1) (.bin .add (.var 3) (.lit (.int 1)))))))]⟩
def d__law_other : Df := ⟨.fn "_law_other", "_law_other", "_law_other", "_law_other", top 40, (["_law_pool_here", "_law_word_here", "_law_letters", "_law_at", "_law_letter"] : List PySem.Str), (["_law_pool_here", "_law_word_here"] : List PySem.Str), f__law_other, none⟩
theorem o__law_other : DfOk d__law_other := ⟨(fun _ K f fd F => F.bindsN (fun _ _ _ _ _ _ us hl => match us, hl with | [_, _], _ => rfl)), (fun x g e => by cases e), ⟨rfl, rfl, rfl, by decide +kernel, rfl, by decide +kernel, by decide +kernel⟩, rfl, rfl⟩
def b__law_menu_1 : List S := [(.set 9 (.bin .add (.var 9) (.comp (.tup [(.var 1), (.var 11), (.var 10)]) (.name 11) (.seq (.lst [(.lit (.str [99, 97, 109, 101])), (.lit (.str [102, 114, 101, 101])), (.lit (.str [104, 101, 108, 100])), (.lit (.str [111, 117, 116]))])))))]
def f__law_menu : Fn := ⟨2, 12, [(.set 2 (.call "_law_word" [(.call "_law_draw" [(.var 0), (.lit (.int 2520))]), (.call "_law_draw" [(.var 0), (.lit (.int 2520))]), (.bin .add (.lit (.int 1)) (.call "_law_draw" [(.var 0), (.lit (.int 8))]))])), (.set 3 (.lst [(.var 2), (.call "_law_other" [(.var 0), (.var 2)])])), (.set 4 (.call "_law_draw" [(.var 0), (.lit (.int 9))])), (.set 5 (.bin .add (.bin .add (.var 4) (.lit (.int 1))) (.call "_law_draw" [(.var 0), (.lit (.int 4))]))), (.set 6 (.bin .add (.bin .add (.var 4) (.lit (.int 5))) (.call "_law_draw" [(.var 0), (.lit (.int 4))]))), (.ifs (.cmp .eq (.var 1) (.lit (.int 5))) [(.set 7 (.comp (.tup [(.lit (.int 5)), (.lit (.str [112, 117, 114, 115, 101])), (.bin .add (.lit (.int 1)) (.bin .mod (.blt .int [(.var 8)]) (.lit (.int 9))))]) (.name 8) (.seq (.lst [(.var 4), (.var 5), (.var 6)])))), (.ret (some (.sortP (.bin .add (.var 7) (.lst [(.tup [(.lit (.int 5)), (.lit (.str [107, 101, 112, 116]))]), (.tup [(.lit (.int 5)), (.lit (.str [112, 97, 105, 100]))]), (.tup [(.lit (.int 5)), (.lit (.str [116, 105, 108, 108]))])])))))] []), (.set 9 (.lst [])), (.fr (.name 10) (.seq (.var 3)) b__law_menu_1), (.ret (some (.sortP (.var 9))))]⟩
def d__law_menu : Df := ⟨.fn "_law_menu", "_law_menu", "_law_menu", "_law_menu", top 41, (["_law_pool_here", "_law_house", "_law_base", "_law_words", "_law_one", "_law_two", "_law_three", "_law_purses", "_law_k", "_law_keys", "_law_word_here", "_law_kind"] : List PySem.Str), (["_law_pool_here", "_law_house"] : List PySem.Str), f__law_menu, none⟩
theorem o__law_menu : DfOk d__law_menu := ⟨(fun _ K f fd F => F.bindsN (fun _ _ _ _ _ _ us hl => match us, hl with | [_, _], _ => rfl)), (fun x g e => by cases e), ⟨rfl, rfl, rfl, by decide +kernel, rfl, by decide +kernel, by decide +kernel⟩, rfl, rfl⟩
def f__law_mode : Fn := ⟨3, 5, [(.ifs (.cmp .nmem (.idx (.var 1) (.lit (.int 1))) (.lst [(.lit (.str [102, 114, 101, 101])), (.lit (.str [112, 117, 114, 115, 101]))])) [(.ret (some (.tup [(.idx (.lst [(.lit (.str [115, 101, 101])), (.lit (.str [97, 100, 100])), (.lit (.str [97, 100, 100]))]) (.call "_law_draw" [(.var 0), (.lit (.int 3))])), (.lit (.int 0))])))] []), (.set 3 (.call "_law_draw" [(.var 0), (.lit (.int 6))])), (.set 4 (.bin .add (.lit (.int 1)) (.call "_law_draw" [(.var 0), (.lit (.int 9))]))), (.ifs (.cmp .lt (.var 3) (.lit (.int 2))) [(.ret (some (.tup [(.idx (.lst [(.lit (.str [115, 101, 101])), (.lit (.str [97, 100, 100]))]) (.var 3)), (.lit (.int 0))])))] []), (.ret (some (.tup [(.lit (.str [116, 97, 107, 101])), (.idx (.lst [(.blt .max [(.lit (.int 1)), (.bin .fdiv (.var 2) (.lit (.int 3)))]), (.var 4), (.blt .max [(.lit (.int 1)), (.bin .fdiv (.var 2) (.lit (.int 2)))]), (.blt .max [(.lit (.int 1)), (.bin .add (.bin .sub (.var 2) (.lit (.int 1))) (.var 4))])]) (.bin .sub (.var 3) (.lit (.int 2))))])))]⟩
def d__law_mode : Df := ⟨.fn "_law_mode", "_law_mode", "_law_mode", "_law_mode", top 42, (["_law_pool_here", "_law_key", "_law_value", "_law_way", "_law_few"] : List PySem.Str), (["_law_pool_here", "_law_key", "_law_value"] : List PySem.Str), f__law_mode, none⟩
theorem o__law_mode : DfOk d__law_mode := ⟨(fun _ K f fd F => F.bindsN (fun _ _ _ _ _ _ us hl => match us, hl with | [_, _, _], _ => rfl)), (fun x g e => by cases e), ⟨rfl, rfl, rfl, by decide +kernel, rfl, by decide +kernel, by decide +kernel⟩, rfl, rfl⟩
def b__law_requests_1 : List S := [(.ifs (.bor (.cmp .eq (.bin .mod (.var 3) (.lit (.int 3))) (.lit (.int 0))) (.cmp .eq (.var 6) (.var 4))) [(.set 7 (.call "_law_mode" [(.var 0), (.idx (.var 1) (.var 6)), (.dgetD (.var 2) (.idx (.var 1) (.var 6)) (.lit (.int 0)))])), (.expr (.bm (.var 5) .append [(.tup [(.idx (.var 1) (.var 6)), (.idx (.var 7) (.lit (.int 0))), (.idx (.var 7) (.lit (.int 1)))])]))] []), (.set 3 (.bin .fdiv (.var 3) (.lit (.int 3))))]
def f__law_requests : Fn := ⟨3, 8, [(.set 3 (.blt .int [(.bin .add (.bin .mul (.call "_law_draw" [(.var 0), (.lit (.int 2520))]) (.lit (.int 2520))) (.call "_law_draw" [(.var 0), (.lit (.int 2520))]))])), (.set 4 (.call "_law_draw" [(.var 0), (.blt .len [(.var 1)])])), (.set 5 (.lst [])), (.fr (.name 6) (.range1 (.blt .len [(.var 1)])) b__law_requests_1), (.ret (some (.blt .tuple [(.var 5)])))]⟩
def d__law_requests : Df := ⟨.fn "_law_requests", "_law_requests", "_law_requests", "_law_requests", top 43, (["_law_pool_here", "_law_menu_here", "_law_values_here", "_law_mask", "_law_chosen", "_law_out", "_law_k", "_law_found"] : List PySem.Str), (["_law_pool_here", "_law_menu_here", "_law_values_here"] : List PySem.Str), f__law_requests, none⟩
theorem o__law_requests : DfOk d__law_requests := ⟨(fun _ K f fd F => F.bindsN (fun _ _ _ _ _ _ us hl => match us, hl with | [_, _, _], _ => rfl)), (fun x g e => by cases e), ⟨rfl, rfl, rfl, by decide +kernel, rfl, by decide +kernel, by decide +kernel⟩, rfl, rfl⟩
def b__law_start_1 : List S := [(.set 4 (.idx (.lst [(.call "_law_draw" [(.var 0), (.lit (.int 12))]), (.call "_law_large" [(.var 0), (.lit (.int 1000000))])]) (.blt .int [(.cmp .eq (.call "_law_draw" [(.var 0), (.lit (.int 5))]) (.lit (.int 0)))]))), (.ifs (.band (.cmp .eq (.idx (.var 3) (.lit (.int 1))) (.lit (.str [111, 117, 116]))) (.cmp .eq (.call "_law_draw" [(.var 0), (.lit (.int 2))]) (.lit (.int 0)))) [(.set 4 (.bin .sub (.lit (.int 0)) (.var 4)))] []), (.ifs (.band (.cmp .mem (.idx (.var 3) (.lit (.int 1))) (.lst [(.lit (.str [102, 114, 101, 101])), (.lit (.str [111, 117, 116])), (.lit (.str [112, 117, 114, 115, 101]))])) (.cmp .gt (.call "_law_draw" [(.var 0), (.lit (.int 4))]) (.lit (.int 0)))) [(.setD (.var 2) (.var 3) (.var 4)), (.set 5 (.tup [(.lit (.int 5)), (.lit (.str [112, 97, 105, 100]))])), (.ifs (.cmp .ne (.idx (.var 3) (.lit (.int 1))) (.lit (.str [112, 117, 114, 115, 101]))) [(.set 5 (.tup [(.idx (.var 3) (.lit (.int 0))), (.lit (.str [99, 97, 109, 101])), (.idx (.var 3) (.lit (.int 2)))]))] []), (.setD (.var 2) (.var 5) (.bin .add (.dgetD (.var 2) (.var 5) (.lit (.int 0))) (.var 4)))] [])]
def f__law_start : Fn := ⟨2, 6, [(.set 2 (.dct true [] [])), (.fr (.name 3) (.seq (.var 1)) b__law_start_1), (.ret (some (.blt .tuple [(.compIf (.tup [(.var 3), (.dget (.var 2) (.var 3))]) (.name 3) (.seq (.sortP (.var 2))) (.cmp .ne (.dget (.var 2) (.var 3)) (.lit (.int 0))))])))]⟩
def d__law_start : Df := ⟨.fn "_law_start", "_law_start", "_law_start", "_law_start", top 44, (["_law_pool_here", "_law_menu_here", "_law_sums", "_law_key", "_law_amount", "_law_whole"] : List PySem.Str), (["_law_pool_here", "_law_menu_here"] : List PySem.Str), f__law_start, none⟩
theorem o__law_start : DfOk d__law_start := ⟨(fun _ K f fd F => F.bindsN (fun _ _ _ _ _ _ us hl => match us, hl with | [_, _], _ => rfl)), (fun x g e => by cases e), ⟨rfl, rfl, rfl, by decide +kernel, rfl, by decide +kernel, by decide +kernel⟩, rfl, rfl⟩
def b__law_values_1 : List S := [(.setD (.var 1) (.idx (.var 2) (.lit (.int 0))) (.idx (.var 2) (.lit (.int 1))))]
def f__law_values : Fn := ⟨1, 3, [(.set 1 (.dct true [] [])), (.fr (.name 2) (.seq (.var 0)) b__law_values_1), (.ret (some (.var 1)))]⟩
def d__law_values : Df := ⟨.fn "_law_values", "_law_values", "_law_values", "_law_values", top 45, (["_law_start_here", "_law_values_here", "_law_pair"] : List PySem.Str), (["_law_start_here"] : List PySem.Str), f__law_values, none⟩
theorem o__law_values : DfOk d__law_values := ⟨(fun _ K f fd F => F.bindsN (fun _ _ _ _ _ _ us hl => match us, hl with | [_], _ => rfl)), (fun x g e => by cases e), ⟨rfl, rfl, rfl, by decide +kernel, rfl, by decide +kernel, by decide +kernel⟩, rfl, rfl⟩
def b__law_same_1 : List S := [(.ifs (.bnot (.call "_law_same" [(.idx (.var 0) (.var 2)), (.idx (.var 1) (.var 2))])) [(.ret (some (.lit (.bool false))))] [])]
def f__law_same : Fn := ⟨2, 3, [(.ifs (.isi (.var 1) .tuple) [(.ifs (.bor (.bnot (.isi (.var 0) .tuple)) (.cmp .ne (.blt .len [(.var 0)]) (.blt .len [(.var 1)]))) [(.ret (some (.lit (.bool false))))] []), (.fr (.name 2) (.range1 (.blt .len [(.var 1)])) b__law_same_1), (.ret (some (.lit (.bool true))))] []), (.ifs (.cmp .isn (.var 1) (.lit .none)) [(.ret (some (.cmp .isn (.var 0) (.lit .none))))] []), (.ifs (.isi (.var 1) .bool) [(.ret (some (.band (.isi (.var 0) .bool) (.cmp .eq (.var 0) (.var 1)))))] []), (.ifs (.isi (.var 1) .str) [(.ret (some (.band (.isi (.var 0) .str) (.cmp .eq (.var 0) (.var 1)))))] []), (.ret (some (.band (.isi (.var 0) .int) (.band (.bnot (.isi (.var 0) .bool)) (.cmp .eq (.var 0) (.var 1))))))]⟩
def d__law_same : Df := ⟨.fn "_law_same", "_law_same", "_law_same", "_law_same", top 46, (["_law_told", "_law_due", "_law_k"] : List PySem.Str), (["_law_told", "_law_due"] : List PySem.Str), f__law_same, none⟩
theorem o__law_same : DfOk d__law_same := ⟨(fun _ K f fd F => F.bindsN (fun _ _ _ _ _ _ us hl => match us, hl with | [_, _], _ => rfl)), (fun x g e => by cases e), ⟨rfl, rfl, rfl, by decide +kernel, rfl, by decide +kernel, by decide +kernel⟩, rfl, rfl⟩
def f__law_is_number : Fn := ⟨1, 1, [(.ret (some (.band (.isi (.var 0) .int) (.band (.bnot (.isi (.var 0) .bool)) (.cmp .ge (.var 0) (.lit (.int 0)))))))]⟩
def d__law_is_number : Df := ⟨.fn "_law_is_number", "_law_is_number", "_law_is_number", "_law_is_number", top 47, (["_law_told"] : List PySem.Str), (["_law_told"] : List PySem.Str), f__law_is_number, none⟩
theorem o__law_is_number : DfOk d__law_is_number := ⟨(fun _ K f fd F => F.bindsN (fun _ _ _ _ _ _ us hl => match us, hl with | [_], _ => rfl)), (fun x g e => by cases e), ⟨rfl, rfl, rfl, by decide +kernel, rfl, by decide +kernel, by decide +kernel⟩, rfl, rfl⟩
def b__law_granted_1 : List S := [(.ifs (.band (.cmp .eq (.idx (.idx (.var 4) (.var 5)) (.lit (.int 1))) (.lit (.str [97, 100, 100]))) (.cmp .notn (.idx (.idx (.var 3) (.lit (.int 1))) (.var 5)) (.lit .none))) [(.ret (some (.lit (.bool false))))] []), (.ifs (.band (.cmp .eq (.idx (.idx (.var 4) (.var 5)) (.lit (.int 1))) (.lit (.str [116, 97, 107, 101]))) (.bnot (.band (.call "_law_is_number" [(.idx (.idx (.var 3) (.lit (.int 1))) (.var 5))]) (.cmp .le (.idx (.idx (.var 3) (.lit (.int 1))) (.var 5)) (.idx (.idx (.var 4) (.var 5)) (.lit (.int 2))))))) [(.ret (some (.lit (.bool false))))] [])]
def b__law_granted_2 : List S := [(.ifs (.bor (.bnot (.isi (.var 3) .tuple)) (.bor (.cmp .ne (.blt .len [(.var 3)]) (.lit (.int 2))) (.bor (.bnot (.isi (.idx (.var 3) (.lit (.int 0))) .tuple)) (.din true (.idx (.var 3) (.lit (.int 0))) (.var 1))))) [(.ret (some (.lit (.bool false))))] []), (.set 4 (.dpop (.var 1) (.idx (.var 3) (.lit (.int 0))))), (.ifs (.bor (.bnot (.isi (.idx (.var 3) (.lit (.int 1))) .tuple)) (.cmp .ne (.blt .len [(.idx (.var 3) (.lit (.int 1)))]) (.blt .len [(.var 4)]))) [(.ret (some (.lit (.bool false))))] []), (.fr (.name 5) (.range1 (.blt .len [(.var 4)])) b__law_granted_1), (.expr (.bm (.var 2) .append [(.tup [(.idx (.var 3) (.lit (.int 0))), (.var 4), (.idx (.var 3) (.lit (.int 1)))])]))]
def f__law_granted : Fn := ⟨3, 6, [(.ifs (.bnot (.isi (.var 0) .tuple)) [(.ret (some (.lit (.bool false))))] []), (.fr (.name 3) (.seq (.var 0)) b__law_granted_2), (.ret (some (.lit (.bool true))))]⟩
def d__law_granted : Df := ⟨.fn "_law_granted", "_law_granted", "_law_granted", "_law_granted", top 48, (["_law_told", "_law_asked", "_law_standing", "_law_pair", "_law_requests_here", "_law_k"] : List PySem.Str), (["_law_told", "_law_asked", "_law_standing"] : List PySem.Str), f__law_granted, none⟩
theorem o__law_granted : DfOk d__law_granted := ⟨(fun _ K f fd F => F.bindsN (fun _ _ _ _ _ _ us hl => match us, hl with | [_, _, _], _ => rfl)), (fun x g e => by cases e), ⟨rfl, rfl, rfl, by decide +kernel, rfl, by decide +kernel, by decide +kernel⟩, rfl, rfl⟩
def b__law_promised_1 : List S := [(.ifs (.band (.cmp .eq (.idx (.idx (.idx (.var 3) (.lit (.int 1))) (.var 4)) (.lit (.int 0))) (.var 1)) (.band (.cmp .eq (.idx (.idx (.idx (.var 3) (.lit (.int 1))) (.var 4)) (.lit (.int 1))) (.lit (.str [116, 97, 107, 101]))) (.cmp .eq (.idx (.idx (.var 3) (.lit (.int 2))) (.var 4)) (.idx (.idx (.idx (.var 3) (.lit (.int 1))) (.var 4)) (.lit (.int 2)))))) [(.set 2 (.bin .add (.var 2) (.idx (.idx (.var 3) (.lit (.int 2))) (.var 4))))] [])]
def b__law_promised_2 : List S := [(.fr (.name 4) (.range1 (.blt .len [(.idx (.var 3) (.lit (.int 1)))])) b__law_promised_1)]
def f__law_promised : Fn := ⟨2, 5, [(.set 2 (.lit (.int 0))), (.fr (.name 3) (.seq (.var 0)) b__law_promised_2), (.ret (some (.var 2)))]⟩
def d__law_promised : Df := ⟨.fn "_law_promised", "_law_promised", "_law_promised", "_law_promised", top 49, (["_law_standing", "_law_key", "_law_total", "_law_grant", "_law_k"] : List PySem.Str), (["_law_standing", "_law_key"] : List PySem.Str), f__law_promised, none⟩
theorem o__law_promised : DfOk d__law_promised := ⟨(fun _ K f fd F => F.bindsN (fun _ _ _ _ _ _ us hl => match us, hl with | [_, _], _ => rfl)), (fun x g e => by cases e), ⟨rfl, rfl, rfl, by decide +kernel, rfl, by decide +kernel, by decide +kernel⟩, rfl, rfl⟩
def b__law_ended_1 : List S := [(.set 5 (.idx (.idx (.idx (.var 1) (.lit (.int 1))) (.var 4)) (.lit (.int 0)))), (.set 6 (.call "_law_draw" [(.var 0), (.lit (.int 3))])), (.set 7 (.lit (.int 0))), (.ifs (.band (.cmp .eq (.idx (.idx (.idx (.var 1) (.lit (.int 1))) (.var 4)) (.lit (.int 1))) (.lit (.str [97, 100, 100]))) (.cmp .gt (.var 6) (.lit (.int 0)))) [(.set 7 (.bin .add (.lit (.int 1)) (.call "_law_draw" [(.var 0), (.lit (.int 60))]))), (.ifs (.band (.cmp .eq (.var 6) (.lit (.int 1))) (.cmp .nmem (.idx (.var 5) (.lit (.int 1))) (.lst [(.lit (.str [102, 114, 101, 101])), (.lit (.str [112, 117, 114, 115, 101]))]))) [(.set 7 (.bin .sub (.lit (.int 0)) (.var 7)))] [])] []), (.ifs (.cmp .eq (.idx (.idx (.idx (.var 1) (.lit (.int 1))) (.var 4)) (.lit (.int 1))) (.lit (.str [116, 97, 107, 101]))) [(.set 7 (.bin .sub (.lit (.int 0)) (.idx (.lst [(.idx (.idx (.var 1) (.lit (.int 2))) (.var 4)), (.lit (.int 0)), (.bin .fdiv (.idx (.idx (.var 1) (.lit (.int 2))) (.var 4)) (.lit (.int 2)))]) (.var 6))))] []), (.ifs (.cmp .ne (.var 7) (.lit (.int 0))) [(.expr (.bm (.var 3) .append [(.tup [(.var 5), (.var 7)])])), (.setD (.var 2) (.var 5) (.bin .add (.dgetD (.var 2) (.var 5) (.lit (.int 0))) (.var 7)))] [])]
def f__law_ended : Fn := ⟨3, 8, [(.set 3 (.lst [])), (.fr (.name 4) (.range1 (.blt .len [(.idx (.var 1) (.lit (.int 1)))])) b__law_ended_1), (.ret (some (.blt .tuple [(.var 3)])))]⟩
def d__law_ended : Df := ⟨.fn "_law_ended", "_law_ended", "_law_ended", "_law_ended", top 50, (["_law_pool_here", "_law_grant", "_law_values_here", "_law_writes", "_law_k", "_law_key", "_law_way", "_law_change"] : List PySem.Str), (["_law_pool_here", "_law_grant", "_law_values_here"] : List PySem.Str), f__law_ended, none⟩
theorem o__law_ended : DfOk d__law_ended := ⟨(fun _ K f fd F => F.bindsN (fun _ _ _ _ _ _ us hl => match us, hl with | [_, _, _], _ => rfl)), (fun x g e => by cases e), ⟨rfl, rfl, rfl, by decide +kernel, rfl, by decide +kernel, by decide +kernel⟩, rfl, rfl⟩
def b__law_safe_1 : List S := [(.ifs (.bnot (.call "_law_same" [(.meth (.var 0) "value" [(.var 7)]), (.dgetD (.var 2) (.var 7) (.lit (.int 0)))])) [(.ret (some (.lit (.bool false))))] []), (.ifs (.band (.cmp .mem (.idx (.var 7) (.lit (.int 1))) (.lst [(.lit (.str [102, 114, 101, 101])), (.lit (.str [112, 117, 114, 115, 101]))])) (.cmp .lt (.dgetD (.var 2) (.var 7) (.lit (.int 0))) (.call "_law_promised" [(.var 4), (.var 7)]))) [(.ret (some (.lit (.bool false))))] [])]
def f__law_safe : Fn := ⟨5, 8, [(.ifs (.bnot (.call "_law_same" [(.meth (.var 0) "granted" []), (.blt .tuple [(.sortP (.comp (.idx (.var 5) (.lit (.int 0))) (.name 5) (.seq (.var 4))))])])) [(.ret (some (.lit (.bool false))))] []), (.set 6 (.meth (.var 0) "waiting" [])), (.ifs (.bor (.bnot (.isi (.var 6) .tuple)) (.bnot (.call "_law_same" [(.blt .tuple [(.sortP (.var 6))]), (.blt .tuple [(.sortP (.var 3))])]))) [(.ret (some (.lit (.bool false))))] []), (.ifs (.band (.cmp .gt (.blt .len [(.var 3)]) (.lit (.int 0))) (.cmp .eq (.blt .len [(.var 4)]) (.lit (.int 0)))) [(.ret (some (.lit (.bool false))))] []), (.fr (.name 7) (.seq (.var 1)) b__law_safe_1), (.ret (some (.lit (.bool true))))]⟩
def d__law_safe : Df := ⟨.fn "_law_safe", "_law_safe", "_law_safe", "_law_safe", top 51, (["_law_counter", "_law_menu_here", "_law_values_here", "_law_asked", "_law_standing", "_law_grant", "_law_told", "_law_key"] : List PySem.Str), (["_law_counter", "_law_menu_here", "_law_values_here", "_law_asked", "_law_standing"] : List PySem.Str), f__law_safe, none⟩
theorem o__law_safe : DfOk d__law_safe := ⟨(fun _ K f fd F => F.bindsN (fun _ _ _ _ _ _ us hl => match us, hl with | [_, _, _, _, _], _ => rfl)), (fun x g e => by cases e), ⟨rfl, rfl, rfl, by decide +kernel, rfl, by decide +kernel, by decide +kernel⟩, rfl, rfl⟩
def b_law_1 : List S := [(.ifs (.bor (.cmp .lt (.call "_law_draw" [(.var 1), (.lit (.int 5))]) (.lit (.int 3))) (.cmp .eq (.blt .len [(.var 9)]) (.lit (.int 0)))) [(.set 11 (.call "_law_requests" [(.var 1), (.var 3), (.var 5)])), (.setD (.var 8) (.call "_law_id" [(.var 7), (.var 10)]) (.var 11)), (.set 12 (.meth (.var 6) "ask" [(.call "_law_id" [(.var 7), (.var 10)]), (.var 11)]))] [(.set 13 (.bm (.var 9) .pop [(.call "_law_draw" [(.var 1), (.blt .len [(.var 9)])])])), (.set 14 (.call "_law_ended" [(.var 1), (.var 13), (.var 5)])), (.set 12 (.meth (.var 6) "end" [(.idx (.var 13) (.lit (.int 0))), (.var 14)]))]), (.ifs (.bor (.bnot (.call "_law_granted" [(.var 12), (.var 8), (.var 9)])) (.bnot (.call "_law_safe" [(.var 6), (.var 3), (.var 5), (.var 8), (.var 9)]))) [(.ret (some (.lit (.bool false))))] [])]
def f_law : Fn := ⟨1, 15, [(.set 1 (.call "_law_pool" [(.var 0), (.lit (.int 1000))])), (.set 2 (.bin .add (.lit (.int 2)) (.call "_law_draw" [(.var 1), (.lit (.int 4))]))), (.set 3 (.call "_law_menu" [(.var 1), (.var 2)])), (.set 4 (.call "_law_start" [(.var 1), (.var 3)])), (.set 5 (.call "_law_values" [(.var 4)])), (.set 6 (.callK "Counter" [(.var 2)] "start" (.var 4))), (.set 7 (.call "_law_draw" [(.var 1), (.lit (.int 2520))])), (.set 8 (.dct true [] [])), (.set 9 (.lst [])), (.fr (.name 10) (.range1 (.call "_law_draw" [(.var 1), (.lit (.int 35))])) b_law_1), (.ret (some (.lit (.bool true))))]⟩
def d_law : Df := ⟨.fn "law", "law", "law", "law", top 52, (["_law_script", "_law_pool_here", "_law_house", "_law_menu_here", "_law_start_here", "_law_values_here", "_law_counter", "_law_step", "_law_asked", "_law_standing", "_law_k", "_law_requests_here", "_law_told", "_law_ended_here", "_law_writes"] : List PySem.Str), (["_law_script"] : List PySem.Str), f_law, none⟩
theorem o_law : DfOk d_law := ⟨(fun _ K f fd F => F.bindsN (fun _ _ _ _ _ _ us hl => match us, hl with | [_], _ => rfl)), (fun x g e => by cases e), ⟨rfl, rfl, rfl, by decide +kernel, rfl, by decide +kernel, by decide +kernel⟩, rfl, rfl⟩
def b_Counter_dot___init___1 : List S := [(.ifs (.cmp .eq (.idx (.var 3) (.lit (.int 0))) (.var 1)) [(.setD (.attr (.var 0) "values_now") (.var 3) (.var 4))] [])]
def f_Counter_dot___init__ : Fn := ⟨3, 5, [(.ifs (.bnot (.call "is_between" [(.var 1), (.glob "OFFICE"), (.glob "BANK")])) [.dead] []), (.setAttr (.var 0) "house" (.var 1)), (.setAttr (.var 0) "values_now" (.dct true [] [])), (.setAttr (.var 0) "asks" (.lst [])), (.setAttr (.var 0) "grants" (.dct true [] [])), (.setAttr (.var 0) "entries" (.lst [])), (.fr (.tup [(.name 3), (.name 4)]) (.seq (.var 2)) b_Counter_dot___init___1)]⟩
def d_Counter_dot___init__ : Df := ⟨.mth "Counter" "__init__", "Counter.__init__", "__init__", "Counter.__init__", (clsBody (top 33)).getD 0 (.Pass ⟨0, 0, 0, 0⟩), (["self", "house", "start", "key", "value"] : List PySem.Str), (["self", "house", "start"] : List PySem.Str), f_Counter_dot___init__, (some ("start", .tup []))⟩
theorem o_Counter_dot___init__ : DfOk d_Counter_dot___init__ := ⟨(fun h => by cases h), (fun x g e K f fd v F => by cases e; exact ⟨F.binds0 2 (by simp) rfl (fun _ _ _ _ _ _ us ks h1 h2 => match us, h1, ks, h2 with | [_, _], _, [_], _ => ⟨_, _, _, _, _, _, rfl, rfl, rfl⟩), (let ⟨_, h⟩ := F.kbinds0 2 [_] [] (fun us _ ws => us ++ ws) (by simp) (by simp) (fun r1 _ r3 => r1.append r3) (fun _ _ _ _ _ _ us mv ws h1 h2 h3 => match us, h1, mv, h2, ws, h3 with | [_, _], _, [], _, [_], _ => rfl); h)⟩), ⟨rfl, rfl, rfl, by decide +kernel, rfl, by decide +kernel, by decide +kernel⟩, rfl, rfl⟩
def f_Counter_dot_state : Fn := ⟨1, 1, [(.expr (.call "_wall" [(.lit (.int 1))]))]⟩
def d_Counter_dot_state : Df := ⟨.mth "Counter" "state", "Counter.state", "state", "Counter.state", (clsBody (top 33)).getD 2 (.Pass ⟨0, 0, 0, 0⟩), (["self"] : List PySem.Str), (["self"] : List PySem.Str), f_Counter_dot_state, none⟩
theorem o_Counter_dot_state : DfOk d_Counter_dot_state := ⟨(fun _ K f fd F => F.bindsN (fun _ _ _ _ _ _ us hl => match us, hl with | [_], _ => rfl)), (fun x g e => by cases e), ⟨rfl, rfl, rfl, by decide +kernel, rfl, by decide +kernel, by decide +kernel⟩, rfl, rfl⟩
def b_Counter_dot_ask_1 : List S := [(.ifs (.bnot (.call "is_key_of" [(.attr (.var 0) "house"), (.var 3)])) [.dead] [])]
def f_Counter_dot_ask : Fn := ⟨3, 6, [(.ifs (.meth (.var 0) "was_asked" [(.var 1)]) [.dead] []), (.fr (.tup [(.name 3), (.name 4), (.name 5)]) (.seq (.var 2)) b_Counter_dot_ask_1), (.expr (.bm (.attr (.var 0) "asks") .append [(.tup [(.var 1), (.blt .tuple [(.var 2)])])])), (.ret (some (.meth (.var 0) "look" [])))]⟩
def d_Counter_dot_ask : Df := ⟨.mth "Counter" "ask", "Counter.ask", "ask", "Counter.ask", (clsBody (top 33)).getD 3 (.Pass ⟨0, 0, 0, 0⟩), (["self", "deed_id", "requests", "key", "mode", "many"] : List PySem.Str), (["self", "deed_id", "requests"] : List PySem.Str), f_Counter_dot_ask, none⟩
theorem o_Counter_dot_ask : DfOk d_Counter_dot_ask := ⟨(fun _ K f fd F => F.bindsN (fun _ _ _ _ _ _ us hl => match us, hl with | [_, _, _], _ => rfl)), (fun x g e => by cases e), ⟨rfl, rfl, rfl, by decide +kernel, rfl, by decide +kernel, by decide +kernel⟩, rfl, rfl⟩
def b_Counter_dot_end_1 : List S := [(.ifs (.bor (.bnot (.call "is_key_of" [(.attr (.var 0) "house"), (.var 4)])) (.cmp .nmem (.var 4) (.var 3))) [.dead] [])]
def f_Counter_dot_end : Fn := ⟨3, 8, [(.ifs (.bor (.bnot (.call "is_id" [(.var 1)])) (.din true (.var 1) (.attr (.var 0) "grants"))) [.dead] []), (.set 3 (.compIf (.var 4) (.tup [(.name 4), (.name 5), (.name 6)]) (.seq (.dget (.attr (.var 0) "grants") (.var 1))) (.cmp .ne (.var 5) (.lit (.str [115, 101, 101]))))), (.fr (.tup [(.name 4), (.name 7)]) (.seq (.var 2)) b_Counter_dot_end_1), (.expr (.call "carry_out" [(.attr (.var 0) "values_now"), (.var 2)])), (.del (.attr (.var 0) "grants") (.var 1)), (.expr (.bm (.attr (.var 0) "entries") .append [(.tup [(.lit (.str [101, 110, 100, 101, 100])), (.var 1)])])), (.ret (some (.meth (.var 0) "look" [])))]⟩
def d_Counter_dot_end : Df := ⟨.mth "Counter" "end", "Counter.end", "end", "Counter.end", (clsBody (top 33)).getD 4 (.Pass ⟨0, 0, 0, 0⟩), (["self", "deed_id", "writes", "changing", "key", "kind", "many", "what"] : List PySem.Str), (["self", "deed_id", "writes"] : List PySem.Str), f_Counter_dot_end, none⟩
theorem o_Counter_dot_end : DfOk d_Counter_dot_end := ⟨(fun _ K f fd F => F.bindsN (fun _ _ _ _ _ _ us hl => match us, hl with | [_, _, _], _ => rfl)), (fun x g e => by cases e), ⟨rfl, rfl, rfl, by decide +kernel, rfl, by decide +kernel, by decide +kernel⟩, rfl, rfl⟩
def b_Counter_dot_was_asked_1 : List S := [(.ifs (.cmp .eq (.var 2) (.var 1)) [(.ret (some (.lit (.bool true))))] [])]
def f_Counter_dot_was_asked : Fn := ⟨2, 4, [(.ifs (.cmp .mem (.tup [(.lit (.str [103, 114, 97, 110, 116, 101, 100])), (.var 1)]) (.attr (.var 0) "entries")) [(.ret (some (.lit (.bool true))))] []), (.fr (.tup [(.name 2), (.name 3)]) (.seq (.attr (.var 0) "asks")) b_Counter_dot_was_asked_1), (.ret (some (.lit (.bool false))))]⟩
def d_Counter_dot_was_asked : Df := ⟨.mth "Counter" "was_asked", "Counter.was_asked", "was_asked", "Counter.was_asked", (clsBody (top 33)).getD 5 (.Pass ⟨0, 0, 0, 0⟩), (["self", "deed_id", "waiting_id", "requests"] : List PySem.Str), (["self", "deed_id"] : List PySem.Str), f_Counter_dot_was_asked, none⟩
theorem o_Counter_dot_was_asked : DfOk d_Counter_dot_was_asked := ⟨(fun _ K f fd F => F.bindsN (fun _ _ _ _ _ _ us hl => match us, hl with | [_, _], _ => rfl)), (fun x g e => by cases e), ⟨rfl, rfl, rfl, by decide +kernel, rfl, by decide +kernel, by decide +kernel⟩, rfl, rfl⟩
def b_Counter_dot_look_1 : List S := [(.setD (.var 3) (.idx (.var 7) (.lit (.int 0))) (.lit (.bool true)))]
def b_Counter_dot_look_2 : List S := [(.set 6 (.meth (.var 0) "grants_for" [(.var 5), (.var 3)])), (.ifs (.cmp .isn (.var 6) (.lit .none)) [(.expr (.bm (.var 2) .append [(.tup [(.var 4), (.var 5)])])), (.fr (.name 7) (.seq (.var 5)) b_Counter_dot_look_1)] [(.setD (.attr (.var 0) "grants") (.var 4) (.var 6)), (.expr (.bm (.attr (.var 0) "entries") .append [(.tup [(.lit (.str [103, 114, 97, 110, 116, 101, 100])), (.var 4)])])), (.expr (.bm (.var 1) .append [(.tup [(.var 4), (.blt .tuple [(.comp (.meth (.var 0) "answer" [(.var 8)]) (.name 8) (.seq (.var 6)))])])]))])]
def f_Counter_dot_look : Fn := ⟨1, 9, [(.set 1 (.lst [])), (.set 2 (.lst [])), (.set 3 (.dct true [] [])), (.fr (.tup [(.name 4), (.name 5)]) (.seq (.attr (.var 0) "asks")) b_Counter_dot_look_2), (.setAttr (.var 0) "asks" (.var 2)), (.ret (some (.blt .tuple [(.var 1)])))]⟩
def d_Counter_dot_look : Df := ⟨.mth "Counter" "look", "Counter.look", "look", "Counter.look", (clsBody (top 33)).getD 6 (.Pass ⟨0, 0, 0, 0⟩), (["self", "granted", "waiting", "blocked", "deed_id", "requests", "grants", "request", "grant"] : List PySem.Str), (["self"] : List PySem.Str), f_Counter_dot_look, none⟩
theorem o_Counter_dot_look : DfOk d_Counter_dot_look := ⟨(fun _ K f fd F => F.bindsN (fun _ _ _ _ _ _ us hl => match us, hl with | [_], _ => rfl)), (fun x g e => by cases e), ⟨rfl, rfl, rfl, by decide +kernel, rfl, by decide +kernel, by decide +kernel⟩, rfl, rfl⟩
def b_Counter_dot_grants_for_1 : List S := [(.set 7 (.ite (.din false (.var 4) (.var 2)) (.lit .none) (.meth (.var 0) "kind_for" [(.var 4), (.var 5), (.var 6)]))), (.ifs (.cmp .isn (.var 7) (.lit .none)) [(.ret (some (.lit .none)))] []), (.expr (.bm (.var 3) .append [(.tup [(.var 4), (.var 7), (.ite (.cmp .eq (.var 7) (.lit (.str [97, 109, 112, 108, 101]))) (.var 6) (.lit (.int 0)))])]))]
def f_Counter_dot_grants_for : Fn := ⟨3, 8, [(.set 3 (.lst [])), (.fr (.tup [(.name 4), (.name 5), (.name 6)]) (.seq (.var 1)) b_Counter_dot_grants_for_1), (.ret (some (.blt .tuple [(.var 3)])))]⟩
def d_Counter_dot_grants_for : Df := ⟨.mth "Counter" "grants_for", "Counter.grants_for", "grants_for", "Counter.grants_for", (clsBody (top 33)).getD 7 (.Pass ⟨0, 0, 0, 0⟩), (["self", "requests", "blocked", "grants", "key", "mode", "many", "kind"] : List PySem.Str), (["self", "requests", "blocked"] : List PySem.Str), f_Counter_dot_grants_for, none⟩
theorem o_Counter_dot_grants_for : DfOk d_Counter_dot_grants_for := ⟨(fun _ K f fd F => F.bindsN (fun _ _ _ _ _ _ us hl => match us, hl with | [_, _, _], _ => rfl)), (fun x g e => by cases e), ⟨rfl, rfl, rfl, by decide +kernel, rfl, by decide +kernel, by decide +kernel⟩, rfl, rfl⟩
def b_Counter_dot_standing_on_1 : List S := [(.ifs (.cmp .eq (.var 4) (.var 1)) [(.expr (.bm (.var 2) .append [(.tup [(.var 5), (.var 6)])]))] [])]
def b_Counter_dot_standing_on_2 : List S := [(.fr (.tup [(.name 4), (.name 5), (.name 6)]) (.seq (.var 3)) b_Counter_dot_standing_on_1)]
def f_Counter_dot_standing_on : Fn := ⟨2, 7, [(.set 2 (.lst [])), (.lock (.attr (.var 0) "grants") (.fr (.name 3) (.vals (.attr (.var 0) "grants")) b_Counter_dot_standing_on_2)), (.ret (some (.var 2)))]⟩
def d_Counter_dot_standing_on : Df := ⟨.mth "Counter" "standing_on", "Counter.standing_on", "standing_on", "Counter.standing_on", (clsBody (top 33)).getD 8 (.Pass ⟨0, 0, 0, 0⟩), (["self", "key", "found", "grants", "other", "kind", "many"] : List PySem.Str), (["self", "key"] : List PySem.Str), f_Counter_dot_standing_on, none⟩
theorem o_Counter_dot_standing_on : DfOk d_Counter_dot_standing_on := ⟨(fun _ K f fd F => F.bindsN (fun _ _ _ _ _ _ us hl => match us, hl with | [_, _], _ => rfl)), (fun x g e => by cases e), ⟨rfl, rfl, rfl, by decide +kernel, rfl, by decide +kernel, by decide +kernel⟩, rfl, rfl⟩
def f_Counter_dot_kind_for : Fn := ⟨4, 9, [(.set 4 (.meth (.var 0) "standing_on" [(.var 1)])), (.ifs (.band (.cmp .eq (.blt .len [(.var 4)]) (.lit (.int 0))) (.cmp .ne (.var 2) (.lit (.str [116, 97, 107, 101])))) [(.ret (some (.var 2)))] []), (.set 5 (.comp (.var 6) (.tup [(.name 6), (.name 7)]) (.seq (.var 4)))), (.ifs (.cmp .eq (.var 2) (.lit (.str [115, 101, 101]))) [(.ret (some (.ite (.blt .all [(.comp (.cmp .eq (.var 6) (.lit (.str [115, 101, 101]))) (.name 6) (.seq (.var 5)))]) (.lit (.str [115, 101, 101])) (.lit .none))))] []), (.ifs (.bor (.cmp .eq (.var 2) (.lit (.str [111, 119, 110]))) (.bnot (.blt .all [(.comp (.cmp .mem (.var 6) (.tup [(.lit (.str [97, 100, 100])), (.lit (.str [97, 109, 112, 108, 101]))])) (.name 6) (.seq (.var 5)))]))) [(.ret (some (.lit .none)))] []), (.ifs (.cmp .eq (.var 2) (.lit (.str [97, 100, 100]))) [(.ret (some (.lit (.str [97, 100, 100]))))] []), (.set 8 (.bin .sub (.call "value_in" [(.attr (.var 0) "values_now"), (.var 1)]) (.blt .sum [(.comp (.var 7) (.tup [(.name 6), (.name 7)]) (.seq (.var 4)))]))), (.ifs (.cmp .le (.var 3) (.var 8)) [(.ret (some (.lit (.str [97, 109, 112, 108, 101]))))] []), (.ret (some (.ite (.cmp .eq (.blt .len [(.var 4)]) (.lit (.int 0))) (.lit (.str [115, 104, 111, 114, 116])) (.lit .none))))]⟩
def d_Counter_dot_kind_for : Df := ⟨.mth "Counter" "kind_for", "Counter.kind_for", "kind_for", "Counter.kind_for", (clsBody (top 33)).getD 9 (.Pass ⟨0, 0, 0, 0⟩), (["self", "key", "mode", "many", "standing", "kinds", "kind", "taken", "left"] : List PySem.Str), (["self", "key", "mode", "many"] : List PySem.Str), f_Counter_dot_kind_for, none⟩
theorem o_Counter_dot_kind_for : DfOk d_Counter_dot_kind_for := ⟨(fun _ K f fd F => F.bindsN (fun _ _ _ _ _ _ us hl => match us, hl with | [_, _, _, _], _ => rfl)), (fun x g e => by cases e), ⟨rfl, rfl, rfl, by decide +kernel, rfl, by decide +kernel, by decide +kernel⟩, rfl, rfl⟩
def f_Counter_dot_answer : Fn := ⟨2, 5, [(.asg (.tup [(.name 2), (.name 3), (.name 4)]) (.var 1)), (.ifs (.cmp .eq (.var 3) (.lit (.str [97, 100, 100]))) [(.ret (some (.lit .none)))] []), (.ifs (.cmp .eq (.var 3) (.lit (.str [97, 109, 112, 108, 101]))) [(.ret (some (.var 4)))] []), (.ret (some (.call "value_in" [(.attr (.var 0) "values_now"), (.var 2)])))]⟩
def d_Counter_dot_answer : Df := ⟨.mth "Counter" "answer", "Counter.answer", "answer", "Counter.answer", (clsBody (top 33)).getD 10 (.Pass ⟨0, 0, 0, 0⟩), (["self", "grant", "key", "kind", "many"] : List PySem.Str), (["self", "grant"] : List PySem.Str), f_Counter_dot_answer, none⟩
theorem o_Counter_dot_answer : DfOk d_Counter_dot_answer := ⟨(fun _ K f fd F => F.bindsN (fun _ _ _ _ _ _ us hl => match us, hl with | [_, _], _ => rfl)), (fun x g e => by cases e), ⟨rfl, rfl, rfl, by decide +kernel, rfl, by decide +kernel, by decide +kernel⟩, rfl, rfl⟩
def f_Counter_dot_value : Fn := ⟨2, 2, [(.ifs (.bnot (.call "is_key_of" [(.attr (.var 0) "house"), (.var 1)])) [.dead] []), (.ret (some (.call "value_in" [(.attr (.var 0) "values_now"), (.var 1)])))]⟩
def d_Counter_dot_value : Df := ⟨.mth "Counter" "value", "Counter.value", "value", "Counter.value", (clsBody (top 33)).getD 11 (.Pass ⟨0, 0, 0, 0⟩), (["self", "key"] : List PySem.Str), (["self", "key"] : List PySem.Str), f_Counter_dot_value, none⟩
theorem o_Counter_dot_value : DfOk d_Counter_dot_value := ⟨(fun _ K f fd F => F.bindsN (fun _ _ _ _ _ _ us hl => match us, hl with | [_, _], _ => rfl)), (fun x g e => by cases e), ⟨rfl, rfl, rfl, by decide +kernel, rfl, by decide +kernel, by decide +kernel⟩, rfl, rfl⟩
def f_Counter_dot_all_values : Fn := ⟨1, 1, [(.expr (.call "_wall" [(.lit (.int 2))]))]⟩
def d_Counter_dot_all_values : Df := ⟨.mth "Counter" "all_values", "Counter.all_values", "all_values", "Counter.all_values", (clsBody (top 33)).getD 12 (.Pass ⟨0, 0, 0, 0⟩), (["self"] : List PySem.Str), (["self"] : List PySem.Str), f_Counter_dot_all_values, none⟩
theorem o_Counter_dot_all_values : DfOk d_Counter_dot_all_values := ⟨(fun _ K f fd F => F.bindsN (fun _ _ _ _ _ _ us hl => match us, hl with | [_], _ => rfl)), (fun x g e => by cases e), ⟨rfl, rfl, rfl, by decide +kernel, rfl, by decide +kernel, by decide +kernel⟩, rfl, rfl⟩
def f_Counter_dot_waiting : Fn := ⟨1, 3, [(.ret (some (.blt .tuple [(.comp (.var 1) (.tup [(.name 1), (.name 2)]) (.seq (.attr (.var 0) "asks")))])))]⟩
def d_Counter_dot_waiting : Df := ⟨.mth "Counter" "waiting", "Counter.waiting", "waiting", "Counter.waiting", (clsBody (top 33)).getD 13 (.Pass ⟨0, 0, 0, 0⟩), (["self", "deed_id", "requests"] : List PySem.Str), (["self"] : List PySem.Str), f_Counter_dot_waiting, none⟩
theorem o_Counter_dot_waiting : DfOk d_Counter_dot_waiting := ⟨(fun _ K f fd F => F.bindsN (fun _ _ _ _ _ _ us hl => match us, hl with | [_], _ => rfl)), (fun x g e => by cases e), ⟨rfl, rfl, rfl, by decide +kernel, rfl, by decide +kernel, by decide +kernel⟩, rfl, rfl⟩
def f_Counter_dot_granted : Fn := ⟨1, 1, [(.ret (some (.blt .tuple [(.sortP (.keysD (.attr (.var 0) "grants")))])))]⟩
def d_Counter_dot_granted : Df := ⟨.mth "Counter" "granted", "Counter.granted", "granted", "Counter.granted", (clsBody (top 33)).getD 14 (.Pass ⟨0, 0, 0, 0⟩), (["self"] : List PySem.Str), (["self"] : List PySem.Str), f_Counter_dot_granted, none⟩
theorem o_Counter_dot_granted : DfOk d_Counter_dot_granted := ⟨(fun _ K f fd F => F.bindsN (fun _ _ _ _ _ _ us hl => match us, hl with | [_], _ => rfl)), (fun x g e => by cases e), ⟨rfl, rfl, rfl, by decide +kernel, rfl, by decide +kernel, by decide +kernel⟩, rfl, rfl⟩
def f_Counter_dot_trace : Fn := ⟨1, 1, [(.expr (.call "_wall" [(.lit (.int 3))]))]⟩
def d_Counter_dot_trace : Df := ⟨.mth "Counter" "trace", "Counter.trace", "trace", "Counter.trace", (clsBody (top 33)).getD 15 (.Pass ⟨0, 0, 0, 0⟩), (["self"] : List PySem.Str), (["self"] : List PySem.Str), f_Counter_dot_trace, none⟩
theorem o_Counter_dot_trace : DfOk d_Counter_dot_trace := ⟨(fun _ K f fd F => F.bindsN (fun _ _ _ _ _ _ us hl => match us, hl with | [_], _ => rfl)), (fun x g e => by cases e), ⟨rfl, rfl, rfl, by decide +kernel, rfl, by decide +kernel, by decide +kernel⟩, rfl, rfl⟩
def tab : Tab := ⟨[d__wall, d_is_between, d_is_word, d_is_id, d_are_lines, d_fits, d_fit, d_has_name, d_is_key, d_is_key_of, d_is_amount, d_first_value, d_value_in, d_carry_out, d__law_pool, d__law_draw, d__law_word, d__law_id, d__law_large, d__law_other, d__law_menu, d__law_mode, d__law_requests, d__law_start, d__law_values, d__law_same, d__law_is_number, d__law_granted, d__law_promised, d__law_ended, d__law_safe, d_law, d_Counter_dot___init__, d_Counter_dot_state, d_Counter_dot_ask, d_Counter_dot_end, d_Counter_dot_was_asked, d_Counter_dot_look, d_Counter_dot_grants_for, d_Counter_dot_standing_on, d_Counter_dot_kind_for, d_Counter_dot_answer, d_Counter_dot_value, d_Counter_dot_all_values, d_Counter_dot_waiting, d_Counter_dot_granted, d_Counter_dot_trace], [("Counter", (["house", "values_now", "asks", "grants", "entries"] : List PySem.Str))], [(("Counter", "state"), "Counter.state"), (("Counter", "ask"), "Counter.ask"), (("Counter", "end"), "Counter.end"), (("Counter", "was_asked"), "Counter.was_asked"), (("Counter", "look"), "Counter.look"), (("Counter", "grants_for"), "Counter.grants_for"), (("Counter", "standing_on"), "Counter.standing_on"), (("Counter", "kind_for"), "Counter.kind_for"), (("Counter", "answer"), "Counter.answer"), (("Counter", "value"), "Counter.value"), (("Counter", "all_values"), "Counter.all_values"), (("Counter", "waiting"), "Counter.waiting"), (("Counter", "granted"), "Counter.granted"), (("Counter", "trace"), "Counter.trace")], [], [], [("OFFICE", .int 1), ("STORES", .tup [.int 2, .int 3, .int 4]), ("BANK", .int 5), ("LETTERS", .str [97, 98, 99, 100, 101, 102, 103, 104, 105, 106, 107, 108, 109, 110, 111, 112, 113, 114, 115, 116, 117, 118, 119, 120, 121, 122]), ("MOST_LETTERS", .int 8), ("MOST_LINES", .int 4), ("OFFICE_NAMES", .tup [.str [112, 114, 105, 99, 101], .str [114, 97, 116, 101], .str [99, 111, 117, 112, 111, 110], .str [111, 114, 100, 101, 114], .str [114, 111, 97, 100], .str [97, 119, 97, 121]]), ("STORE_NAMES", .tup [.str [99, 97, 109, 101], .str [102, 114, 101, 101], .str [104, 101, 108, 100], .str [111, 117, 116]]), ("RECORD_NAMES", .tup [.str [112, 114, 105, 99, 101], .str [114, 97, 116, 101], .str [99, 111, 117, 112, 111, 110], .str [111, 114, 100, 101, 114], .str [114, 111, 97, 100]])], [("RANGES", [([99, 117, 115, 116, 111, 109, 101, 114], .kt [0, 9]), ([98, 117, 121, 101, 114], .kt [1, 9]), ([110, 117, 109, 98, 101, 114], .kt [1, 999]), ([115, 116, 111, 114, 101], .kt [2, 4]), ([99, 111, 117, 110, 116], .kt [1, 999]), ([99, 111, 105, 110, 115], .kt [0, 99999]), ([115, 111, 109, 101, 32, 99, 111, 105, 110, 115], .kt [1, 99999]), ([114, 97, 116, 101], .kt [0, 999])]), ("KEY_PARTS", [([112, 114, 105, 99, 101], .tup [.str [119, 111, 114, 100]]), ([114, 97, 116, 101], .tup []), ([99, 111, 117, 112, 111, 110], .tup [.str [119, 111, 114, 100]]), ([111, 114, 100, 101, 114], .tup [.str [99, 117, 115, 116, 111, 109, 101, 114], .str [110, 117, 109, 98, 101, 114]]), ([114, 111, 97, 100], .tup [.str [99, 117, 115, 116, 111, 109, 101, 114], .str [110, 117, 109, 98, 101, 114]]), ([97, 119, 97, 121], .tup [.str [119, 111, 114, 100]]), ([99, 97, 109, 101], .tup [.str [119, 111, 114, 100]]), ([102, 114, 101, 101], .tup [.str [119, 111, 114, 100]]), ([104, 101, 108, 100], .tup [.str [119, 111, 114, 100]]), ([111, 117, 116], .tup [.str [119, 111, 114, 100]]), ([112, 117, 114, 115, 101], .tup [.str [98, 117, 121, 101, 114]]), ([107, 101, 112, 116], .tup []), ([116, 105, 108, 108], .tup []), ([112, 97, 105, 100], .tup [])])], (["abs", "all", "bool", "int", "isinstance", "len", "list", "max", "min", "range", "sorted", "str", "sum", "tuple", "zip"] : List PySem.Str)⟩
abbrev P : Prog := tab.prog
theorem chk : tab.chk = true := by decide +kernel
theorem oks : ∀ d ∈ tab.defs, DfOk d := by
  intro d hd
  simp only [tab, List.mem_cons, List.not_mem_nil, or_false] at hd
  rcases hd with rfl | rfl | rfl | rfl | rfl | rfl | rfl | rfl | rfl | rfl | rfl | rfl | rfl | rfl | rfl | rfl | rfl | rfl | rfl | rfl | rfl | rfl | rfl | rfl | rfl | rfl | rfl | rfl | rfl | rfl | rfl | rfl | rfl | rfl | rfl | rfl | rfl | rfl | rfl | rfl | rfl | rfl | rfl | rfl | rfl | rfl | rfl
  · exact o__wall
  · exact o_is_between
  · exact o_is_word
  · exact o_is_id
  · exact o_are_lines
  · exact o_fits
  · exact o_fit
  · exact o_has_name
  · exact o_is_key
  · exact o_is_key_of
  · exact o_is_amount
  · exact o_first_value
  · exact o_value_in
  · exact o_carry_out
  · exact o__law_pool
  · exact o__law_draw
  · exact o__law_word
  · exact o__law_id
  · exact o__law_large
  · exact o__law_other
  · exact o__law_menu
  · exact o__law_mode
  · exact o__law_requests
  · exact o__law_start
  · exact o__law_values
  · exact o__law_same
  · exact o__law_is_number
  · exact o__law_granted
  · exact o__law_promised
  · exact o__law_ended
  · exact o__law_safe
  · exact o_law
  · exact o_Counter_dot___init__
  · exact o_Counter_dot_state
  · exact o_Counter_dot_ask
  · exact o_Counter_dot_end
  · exact o_Counter_dot_was_asked
  · exact o_Counter_dot_look
  · exact o_Counter_dot_grants_for
  · exact o_Counter_dot_standing_on
  · exact o_Counter_dot_kind_for
  · exact o_Counter_dot_answer
  · exact o_Counter_dot_value
  · exact o_Counter_dot_all_values
  · exact o_Counter_dot_waiting
  · exact o_Counter_dot_granted
  · exact o_Counter_dot_trace
theorem e__wall : P.ent "_wall" = some (.fn f__wall) := by kernel_rfl
theorem e_is_between : P.ent "is_between" = some (.fn f_is_between) := by kernel_rfl
theorem e_is_word : P.ent "is_word" = some (.fn f_is_word) := by kernel_rfl
theorem e_is_id : P.ent "is_id" = some (.fn f_is_id) := by kernel_rfl
theorem e_are_lines : P.ent "are_lines" = some (.fn f_are_lines) := by kernel_rfl
theorem e_fits : P.ent "fits" = some (.fn f_fits) := by kernel_rfl
theorem e_fit : P.ent "fit" = some (.fn f_fit) := by kernel_rfl
theorem e_has_name : P.ent "has_name" = some (.fn f_has_name) := by kernel_rfl
theorem e_is_key : P.ent "is_key" = some (.fn f_is_key) := by kernel_rfl
theorem e_is_key_of : P.ent "is_key_of" = some (.fn f_is_key_of) := by kernel_rfl
theorem e_is_amount : P.ent "is_amount" = some (.fn f_is_amount) := by kernel_rfl
theorem e_first_value : P.ent "first_value" = some (.fn f_first_value) := by kernel_rfl
theorem e_value_in : P.ent "value_in" = some (.fn f_value_in) := by kernel_rfl
theorem e_carry_out : P.ent "carry_out" = some (.fn f_carry_out) := by kernel_rfl
theorem e__law_pool : P.ent "_law_pool" = some (.fn f__law_pool) := by kernel_rfl
theorem e__law_draw : P.ent "_law_draw" = some (.fn f__law_draw) := by kernel_rfl
theorem e__law_word : P.ent "_law_word" = some (.fn f__law_word) := by kernel_rfl
theorem e__law_id : P.ent "_law_id" = some (.fn f__law_id) := by kernel_rfl
theorem e__law_large : P.ent "_law_large" = some (.fn f__law_large) := by kernel_rfl
theorem e__law_other : P.ent "_law_other" = some (.fn f__law_other) := by kernel_rfl
theorem e__law_menu : P.ent "_law_menu" = some (.fn f__law_menu) := by kernel_rfl
theorem e__law_mode : P.ent "_law_mode" = some (.fn f__law_mode) := by kernel_rfl
theorem e__law_requests : P.ent "_law_requests" = some (.fn f__law_requests) := by kernel_rfl
theorem e__law_start : P.ent "_law_start" = some (.fn f__law_start) := by kernel_rfl
theorem e__law_values : P.ent "_law_values" = some (.fn f__law_values) := by kernel_rfl
theorem e__law_same : P.ent "_law_same" = some (.fn f__law_same) := by kernel_rfl
theorem e__law_is_number : P.ent "_law_is_number" = some (.fn f__law_is_number) := by kernel_rfl
theorem e__law_granted : P.ent "_law_granted" = some (.fn f__law_granted) := by kernel_rfl
theorem e__law_promised : P.ent "_law_promised" = some (.fn f__law_promised) := by kernel_rfl
theorem e__law_ended : P.ent "_law_ended" = some (.fn f__law_ended) := by kernel_rfl
theorem e__law_safe : P.ent "_law_safe" = some (.fn f__law_safe) := by kernel_rfl
theorem e_law : P.ent "law" = some (.fn f_law) := by kernel_rfl
theorem e_Counter_dot___init__ : P.ent "Counter.__init__" = some (.kw f_Counter_dot___init__) := by kernel_rfl
theorem e_Counter_dot_state : P.ent "Counter.state" = some (.mth f_Counter_dot_state) := by kernel_rfl
theorem e_Counter_dot_ask : P.ent "Counter.ask" = some (.mth f_Counter_dot_ask) := by kernel_rfl
theorem e_Counter_dot_end : P.ent "Counter.end" = some (.mth f_Counter_dot_end) := by kernel_rfl
theorem e_Counter_dot_was_asked : P.ent "Counter.was_asked" = some (.mth f_Counter_dot_was_asked) := by kernel_rfl
theorem e_Counter_dot_look : P.ent "Counter.look" = some (.mth f_Counter_dot_look) := by kernel_rfl
theorem e_Counter_dot_grants_for : P.ent "Counter.grants_for" = some (.mth f_Counter_dot_grants_for) := by kernel_rfl
theorem e_Counter_dot_standing_on : P.ent "Counter.standing_on" = some (.mth f_Counter_dot_standing_on) := by kernel_rfl
theorem e_Counter_dot_kind_for : P.ent "Counter.kind_for" = some (.mth f_Counter_dot_kind_for) := by kernel_rfl
theorem e_Counter_dot_answer : P.ent "Counter.answer" = some (.mth f_Counter_dot_answer) := by kernel_rfl
theorem e_Counter_dot_value : P.ent "Counter.value" = some (.mth f_Counter_dot_value) := by kernel_rfl
theorem e_Counter_dot_all_values : P.ent "Counter.all_values" = some (.mth f_Counter_dot_all_values) := by kernel_rfl
theorem e_Counter_dot_waiting : P.ent "Counter.waiting" = some (.mth f_Counter_dot_waiting) := by kernel_rfl
theorem e_Counter_dot_granted : P.ent "Counter.granted" = some (.mth f_Counter_dot_granted) := by kernel_rfl
theorem e_Counter_dot_trace : P.ent "Counter.trace" = some (.mth f_Counter_dot_trace) := by kernel_rfl
theorem e_Counter : P.ent "Counter" = some (.clsK "Counter.__init__") := by kernel_rfl
end L34

namespace L34
open PySem PySem.Spec PyProof.Rows L2 Py
/-! ### the head -/
abbrev R : PySem.W.OpenRow := PySem.W.OpenLaw.row PySem.Challenge.rw_oncecoin_k34_promised_stays_there
abbrev hk : PySem.W.Hook := hookY 5 tab.fa tab.dd tab.tbs
def ob (s : PySem.W.SharedT) : AlY := obsYG 5 tab.fa tab.dd tab.tbs (HandSHeadRun.getT s)
theorem ob_eq (s : PySem.W.SharedT) : ob s = hk.obs s.abs := obsYG_eq (HandSHeadRun.getT_eq s)
def loose : List PySem.Str := (["_wall", "ShopError", "InvalidNumber", "NoKey", "Twice", "NotGranted", "OFFICE", "STORES", "BANK", "LETTERS", "MOST_LETTERS", "MOST_LINES", "RANGES", "KEY_PARTS", "OFFICE_NAMES", "STORE_NAMES", "RECORD_NAMES", "is_between", "is_word", "is_id", "are_lines", "fits", "fit", "has_name", "is_key", "is_key_of", "is_amount", "first_value", "value_in", "carry_out"] : List PySem.Str) ++ (["Counter", "_law_pool", "_law_draw", "_law_word", "_law_id", "_law_large", "_law_other", "_law_menu", "_law_mode", "_law_requests", "_law_start", "_law_values", "_law_same", "_law_is_number", "_law_granted", "_law_promised", "_law_ended", "_law_safe"] : List PySem.Str)
theorem run (w : World) : HandSHeadRun.RunEq R (PySem.W.view R.prog [52]) hk ob 6000 loose w :=
  PySem.W.byRow2 "special-get-raises" (P := fun w => HandSHeadRun.RunEq R (PySem.W.view R.prog [52]) hk ob 6000 loose w) (fun w => by intro os; kernel_rfl) (fun w => by intro os; kernel_rfl) w
end L34

namespace L34
open Py
/-! ### the pool of numbers -/
theorem mul_r {i j : Int} (h : -18446744073709551616 < j ∧ j < 18446744073709551616) : mulOk i j := mulOk_small (.inr h)
theorem mul_l {i j : Int} (h : -18446744073709551616 < i ∧ i < 18446744073709551616) : mulOk i j := mulOk_small (.inl h)
theorem mod_lo (a b : Int) (h : 0 < b := by decide) : 0 ≤ a % b := Int.emod_nonneg _ (by omega)
theorem mod_hi (a b : Int) (h : 0 < b := by decide) : a % b < b := Int.emod_lt_of_pos _ h
def Pl (xs : List Int) : Prop := ∀ x ∈ xs, 0 ≤ x ∧ x < 2520
theorem Pl.snoc {xs : List Int} {x : Int} (h : Pl xs) (h1 : 0 ≤ x) (h2 : x < 2520) : Pl (xs ++ [x]) := fun y hy => by
  rcases List.mem_append.mp hy with hy | hy
  · exact h y hy
  · rw [List.mem_singleton.mp hy]; exact ⟨h1, h2⟩
theorem len_ints {m : Mem} {k : Nat} {xs : List Int} (h : m.list k = some (xs.map .int)) : bltop .len [.ref k] m = .ok (.int xs.length) m := len_list h (by rw [List.length_map])
theorem pool_in (C : Calls) (m : Mem) (ns : List Int) (many tot cell rest : Int) (x6 x7 x8 : Option Val) (xs : List Int) (n : Nat) (hn : n ≤ 60) (hl : xs.length < 100000) (hp : Pl xs) :
    ∃ l' m', forLoop none (.name 6) (execB P C b__law_pool_1) ((List.range n).map fun (i : Nat) => .int i) [some (.fro ns), some (.int many), some (.ref m.length), some (.int tot), some (.int cell), some (.int rest), x6, x7, x8] (m ++ [.list (xs.map .int)]) = .nx l' m' ∧
    ∃ (rest : Int) (x6 : Option Val) (ys : List Int), l' = [some (.fro ns), some (.int many), some (.ref m.length), some (.int tot), some (.int cell), some (.int rest), x6, x7, x8] ∧ m' = m ++ [.list (ys.map .int)] ∧ Pl ys ∧ ys.length ≤ xs.length + 60 := by
  have := for_brk (chk := none) (t := .name 6) (b := execB P C b__law_pool_1) (xs := (List.range n).map fun (i : Nat) => .int i)
    (fun i l m' => i ≤ n ∧ ∃ (rest : Int) (x6 : Option Val) (ys : List Int), l = [some (.fro ns), some (.int many), some (.ref m.length), some (.int tot), some (.int cell), some (.int rest), x6, x7, x8] ∧ m' = m ++ [.list (ys.map .int)] ∧ Pl ys ∧ ys.length ≤ xs.length + i)
    (fun l m' => ∃ (rest : Int) (x6 : Option Val) (ys : List Int), l = [some (.fro ns), some (.int many), some (.ref m.length), some (.int tot), some (.int cell), some (.int rest), x6, x7, x8] ∧ m' = m ++ [.list (ys.map .int)] ∧ Pl ys ∧ ys.length ≤ xs.length + 60)
    (fun _ _ _ _ => still_none _) (fun i x l m' hx hi => ?_) (l := [some (.fro ns), some (.int many), some (.ref m.length), some (.int tot), some (.int cell), some (.int rest), x6, x7, x8]) (m := m ++ [.list (xs.map .int)]) ⟨Nat.zero_le _, rest, x6, xs, rfl, rfl, hp, Nat.le_refl _⟩
  · obtain ⟨l', m', e, q | q⟩ := this
    · obtain ⟨_, rest, x6, ys, a, b, c, d⟩ := q
      exact ⟨l', m', e, rest, x6, ys, a, b, c, by rw [List.length_map, List.length_range] at d; omega⟩
    · exact ⟨l', m', e, q⟩
  · obtain ⟨hin, ex⟩ := rng_get hx
    obtain ⟨_, r, x6, ys, el, em, hd, hy⟩ := hi
    obtain ⟨k, ek⟩ : ∃ k : Int, x = .int k := ⟨_, ex⟩
    subst el em ek
    refine ⟨_, asg_name _ _ _ _, ?_⟩
    have hs : (ys.map Val.int).length < SZ := by rw [List.length_map]; unfold SZ; omega
    cases h0 : (r.fdiv 2520 == 0) with
    | true =>
      refine Flow.byB (by simp [b__law_pool_1, recv_list (mem_new _ _), bm_app (mem_new _ _) hs, op_modI, op_divI (show divOk 2520 by decide), h0] <;> rfl) ?_
      exact ⟨r.fdiv 2520, _, ys ++ [r % 2520], rfl, by simp, hd.snoc (mod_lo _ _) (mod_hi _ _), by simp; omega⟩
    | false =>
      refine Flow.byB (by simp [b__law_pool_1, recv_list (mem_new _ _), bm_app (mem_new _ _) hs, op_modI, op_divI (show divOk 2520 by decide), h0] <;> rfl) ?_
      exact ⟨hin, r.fdiv 2520, _, ys ++ [r % 2520], rfl, by simp, hd.snoc (mod_lo _ _) (mod_hi _ _), by simp; omega⟩
theorem pool_out (C : Calls) (m : Mem) (ns : List Int) (many : Int) (hm : 0 ≤ many ∧ many < 10000) (hns : ns.length ≤ 63) :
    ∃ l' m', forLoop none (.name 4) (execB P C b__law_pool_2) (ns.map .int) [some (.fro ns), some (.int many), some (.ref m.length), some (.int 1), none, none, none, none, none] (m ++ [.list []]) = .nx l' m' ∧
    ∃ (tot : Int) (x4 x5 x6 x7 x8 : Option Val) (ys : List Int), l' = [some (.fro ns), some (.int many), some (.ref m.length), some (.int tot), x4, x5, x6, x7, x8] ∧ m' = m ++ [.list (ys.map .int)] ∧ Pl ys ∧ ys.length ≤ 3780 := by
  have := for_all (chk := none) (t := .name 4) (b := execB P C b__law_pool_2) (xs := ns.map Val.int)
    (fun i l m' => i ≤ ns.length ∧ ∃ (tot : Int) (x4 x5 x6 x7 x8 : Option Val) (ys : List Int), l = [some (.fro ns), some (.int many), some (.ref m.length), some (.int tot), x4, x5, x6, x7, x8] ∧ m' = m ++ [.list (ys.map .int)] ∧ Pl ys ∧ ys.length ≤ 60 * i)
    (fun _ _ _ _ => still_none _) (fun i x l m' hx hi => ?_) (l := [some (.fro ns), some (.int many), some (.ref m.length), some (.int 1), none, none, none, none, none]) (m := m ++ [.list []]) ⟨Nat.zero_le _, 1, _, _, _, _, _, [], rfl, rfl, (fun x hx => by cases hx), Nat.le_refl _⟩
  · obtain ⟨l', m', e, _, tot, x4, x5, x6, x7, x8, ys, a, b, c, d⟩ := this
    exact ⟨l', m', e, tot, x4, x5, x6, x7, x8, ys, a, b, c, by rw [List.length_map] at d; omega⟩
  · have hil : i < ns.length := by have := (List.getElem?_eq_some_iff.mp hx).1; rwa [List.length_map] at this
    obtain ⟨_, tot, x4, x5, x6, x7, x8, ys, el, em, hd, hy⟩ := hi
    obtain ⟨c, ek⟩ : ∃ k : Int, x = .int k := by
      rw [List.getElem?_map] at hx
      obtain ⟨y, _, e⟩ := Option.map_eq_some_iff.mp hx
      exact ⟨y, e.symm⟩
    subst el em ek
    refine ⟨_, asg_name _ _ _ _, ?_⟩
    have hs : (ys.map Val.int).length < SZ := by rw [List.length_map]; unfold SZ; omega
    have hlen := len_ints (mem_new m (ys.map .int))
    have hyl : (ys.length : Int) ≤ 3780 := by omega
    have hyl0 : (0 : Int) ≤ ys.length := by omega
    generalize (ys.length : Int) = yl at hlen hyl hyl0
    have M1 := fun i => mul_r (i := i) (j := 48271) (by decide)
    have M2 := fun i => mul_r (i := i) (j := 69621) (by decide)
    have M3 := fun i => mul_r (i := i) (j := 16807) (by decide)
    have M4 := fun i => mul_r (i := i) (j := 263) (by decide)
    have S1 : ∀ y : Int, mulOk (y % 2147483647) (y % 2147483647) := fun y => mul_l (by have := mod_lo y 2147483647; have := mod_hi y 2147483647; omega)
    have pw : ∀ m, binop .pow (.int 10) (.int 18) m = .ok (.int 1000000000000000000) m := fun m => by rw [op_powL (by decide)]; rfl
    obtain ⟨a, ha⟩ : ∃ a : Int, ∀ m, bltop .abs [.int c] m = .ok (.int a) m := ⟨_, fun m => blt_abs _ _⟩
    cases h0 : decide ((1000000000000000000 : Int) ≤ a) with
    | true =>
      obtain ⟨q, hq, q1, q2⟩ : ∃ q : Int, (∀ m, bltop .min [.int 60, .int (many - yl)] m = .ok (.int q) m) ∧ q ≤ 60 ∧ -10000 ≤ q := ⟨_, fun m => blt_min _ _ _, by split <;> omega, by split <;> omega⟩
      have hj : -4611686018427387904 ≤ q ∧ q < 4611686018427387904 := by omega
      obtain ⟨l', m', e, r', y6, zs, el, em, hz, hzl⟩ := pool_in C m ns many tot c a x6 x7 x8 ys q.toNat (by omega) (by omega) hd
      subst el em
      refine Flow.by (by simp [b__law_pool_2, ha, h0, pw, hlen, hq, hj, e, M4, op_mulI, op_modI, -blt_abs, -blt_min] <;> rfl) ?_
      exact Flow.nx_of ⟨hil, _, _, _, _, _, _, zs, rfl, rfl, hz, by omega⟩
    | false =>
      have hs2 : ∀ v : Val, (ys.map Val.int ++ [v]).length < SZ := fun v => by rw [List.length_append, List.length_map]; show ys.length + 1 < _; unfold SZ; omega
      refine Flow.by (by simp [b__law_pool_2, ha, h0, pw, hlen, M1, M2, M3, M4, S1, op_mulI, op_modI, op_divI (show divOk 7 by decide), recv_list (mem_new _ _), bm_app (mem_new _ _) hs, bm_app (mem_new _ _) (hs2 _), -blt_abs] <;> rfl) ?_
      refine Flow.nx_of ⟨hil, _, _, _, _, _, _, ys ++ [_] ++ [_], rfl, by simp; exact ⟨rfl, rfl⟩, (hd.snoc (mod_lo _ _) (mod_hi _ _)).snoc (mod_lo _ _) (mod_hi _ _), by simp; omega⟩
theorem pool_last (C : Calls) (m : Mem) (ns : List Int) (many tot : Int) (x4 x5 x6 x7 x8 : Option Val) (xs : List Int) (n : Nat) (hn : n < 10000) (hl : xs.length ≤ 3780) (hp : Pl xs) :
    ∃ l' m', forLoop none (.name 6) (execB P C b__law_pool_3) ((List.range n).map fun (i : Nat) => .int i) [some (.fro ns), some (.int many), some (.ref m.length), some (.int tot), x4, x5, x6, x7, x8] (m ++ [.list (xs.map .int)]) = .nx l' m' ∧
    ∃ (tot : Int) (x6 : Option Val) (ys : List Int), l' = [some (.fro ns), some (.int many), some (.ref m.length), some (.int tot), x4, x5, x6, x7, x8] ∧ m' = m ++ [.list (ys.map .int)] ∧ Pl ys ∧ n ≤ ys.length ∧ ys.length ≤ 20000 := by
  have := for_all (chk := none) (t := .name 6) (b := execB P C b__law_pool_3) (xs := (List.range n).map fun (i : Nat) => .int i)
    (fun i l m' => i ≤ n ∧ ∃ (tot : Int) (x6 : Option Val) (ys : List Int), l = [some (.fro ns), some (.int many), some (.ref m.length), some (.int tot), x4, x5, x6, x7, x8] ∧ m' = m ++ [.list (ys.map .int)] ∧ Pl ys ∧ ys.length = xs.length + i)
    (fun _ _ _ _ => still_none _) (fun i x l m' hx hi => ?_) (l := [some (.fro ns), some (.int many), some (.ref m.length), some (.int tot), x4, x5, x6, x7, x8]) (m := m ++ [.list (xs.map .int)]) ⟨Nat.zero_le _, tot, x6, xs, rfl, rfl, hp, rfl⟩
  · obtain ⟨l', m', e, _, tot, x6, ys, a, b, c, d⟩ := this
    rw [List.length_map, List.length_range] at d
    exact ⟨l', m', e, tot, x6, ys, a, b, c, by omega, by omega⟩
  · obtain ⟨hin, ex⟩ := rng_get hx
    obtain ⟨_, tot, x6, ys, el, em, hd, hy⟩ := hi
    obtain ⟨k, ek⟩ : ∃ k : Int, x = .int k := ⟨_, ex⟩
    subst el em ek
    refine ⟨_, asg_name _ _ _ _, ?_⟩
    have hs : (ys.map Val.int).length < SZ := by rw [List.length_map]; unfold SZ; omega
    have M1 := fun i => mul_r (i := i) (j := 48271) (by decide)
    have M2 := fun i => mul_r (i := i) (j := 69621) (by decide)
    refine Flow.by (by simp [b__law_pool_3, recv_list (mem_new _ _), bm_app (mem_new _ _) hs, op_mulI, M1, M2, op_modI, op_divI (show divOk 5 by decide)] <;> rfl) ?_
    exact Flow.nx_of ⟨hin, _, _, ys ++ [_], rfl, by simp; rfl, hd.snoc (mod_lo _ _) (mod_hi _ _), by simp; omega⟩
theorem Pl.sub {xs ys : List Int} (h : Pl xs) (s : ∀ y ∈ ys, y ∈ xs) : Pl ys := fun y hy => h y (s y hy)
theorem run_pool (d : Nat) (m : Mem) (ns : List Int) (many : Int) (hm : 0 ≤ many ∧ many < 10000) (hns : ns.length ≤ 63) : ∃ xs, Pl xs ∧ (xs.length : Int) = many ∧ callN P (d + 1) "_law_pool" [.fro ns, .int many] m = .ok (.ref m.length) (m ++ [.list (xs.map .int)]) := by
  rw [callN_fn e__law_pool rfl]
  obtain ⟨l1, m1, e1, tot, x4, x5, x6, x7, x8, ys, el1, em1, hp1, hl1⟩ := pool_out (callN P d) m ns many hm hns
  subst el1 em1
  obtain ⟨l2, m2, e2, tot2, x62, zs, el2, em2, hp2, hl2, hl3⟩ := pool_last (callN P d) m ns many tot x4 x5 x6 x7 x8 ys many.toNat (by omega) hl1 hp1
  subst el2
  have hr : m2.list m.length = some (zs.map .int) := by rw [em2]; simp
  have hj : -4611686018427387904 ≤ many ∧ many < 4611686018427387904 := by omega
  have hs : 0 ≤ SZ := Nat.zero_le _
  have hcut : cut (zs.map Val.int) none (some many) = (zs.take many.toNat).map Val.int := by
    have h0 : ¬ many < 0 := by omega
    simp [cut, cutIx, h0, List.map_take, Nat.min_eq_left hl2]
  refine ⟨(zs.take many.toNat).reverse, hp2.sub fun y hy => List.mem_of_mem_take (List.mem_reverse.mp hy), by rw [List.length_reverse, List.length_take]; omega, ?_⟩
  have ex : execB P (callN P d) f__law_pool.body (start f__law_pool.ns [.fro ns, .int many]) m = .ret (.ref m2.length) (m2 ++ [.list ((zs.take many.toNat).reverse.map .int)]) := by
    simp [f__law_pool, start, hs, e1, hj, e2, sliceop, hr, hcut, recv_list (mem_new _ _), bmop]
  rw [ex, em2]
  show gc m (.ok _ _) = _
  rw [List.append_assoc]
  exact gc_ref (o := .list ((zs.take many.toNat).reverse.map .int)) (by simp) (by simp) (by rw [ob_under]; exact underL_ints _ _)
theorem Pl.init {xs : List Int} (h : Pl xs) : Pl xs.dropLast := h.sub fun y hy => List.dropLast_subset _ hy
/-- a number is drawn -/
theorem run_draw (d : Nat) {m : Mem} {r : Nat} {xs : List Int} {many : Int} (hr : m.list r = some (xs.map .int)) (hp : Pl xs) (hm : 0 < many) :
    ∃ (y : Int) (ys : List Int), 0 ≤ y ∧ y < many ∧ Pl ys ∧ callN P (d + 1) "_law_draw" [.ref r, .int many] m = .ok (.int y) (m.set r (.list (ys.map .int))) := by
  rw [callN_fn e__law_draw rfl]
  have hlen := len_ints hr
  cases xs with
  | nil =>
    refine ⟨0, [], Int.le_refl _, hm, hp, ?_⟩
    have e : m.set r (.list (([] : List Int).map .int)) = m := by
      have h := get_of_list hr
      obtain ⟨hl, q⟩ := List.getElem?_eq_some_iff.mp h
      rw [← q, List.set_getElem_self]
    rw [e]
    simp [f__law_draw, start, hlen]
  | cons x xs =>
    have hl : ((x :: xs).length : Int) ≠ 0 := by simp; omega
    generalize ((x :: xs).length : Int) = n at hlen hl
    have hn : (n == 0) = false := beq_eq_false_iff_ne.mpr hl
    obtain ⟨z, hz⟩ : ∃ z : Int, ((x :: xs).map Val.int)[((x :: xs).map Val.int).length - 1]? = some (.int z) := by
      rw [List.getElem?_map]
      have : ((x :: xs).map Val.int).length - 1 < (x :: xs).length := by simp
      rw [List.getElem?_eq_getElem this]
      exact ⟨_, rfl⟩
    have hpop : bmop .pop (.ref r) [] m = .ok (.int z) (m.set r (.list ((x :: xs).dropLast.map .int))) := by
      unfold bmop
      simp only [hr, hz]
      rw [List.map_dropLast]
    refine ⟨z % many, (x :: xs).dropLast, mod_lo _ _ hm, mod_hi _ _ hm, hp.init, ?_⟩
    have hg : ∀ z : Int, gc m (.ok (.int z) (m.set r (.list ((x :: xs).dropLast.map .int)))) = .ok (.int z) (m.set r (.list ((x :: xs).dropLast.map .int))) := fun z => gc_set0 (list_lt hr) (by rw [ob_under]; exact underL_ints _ _) (by simp)
    simp only [f__law_draw, start]
    simp [hlen, hn, recv_list hr, hpop, op_modI hm, -List.map_dropLast, hg]
/-! ### data, compared through and through -/
mutual
def okk : Val → Bool
  | .none => true
  | .bool _ => true
  | .int _ => true
  | .str _ => true
  | .tup xs => decide (xs.length < 1000000) && okkL xs
  | .fro _ => false
  | .kt _ => false
  | .ref _ => false
def okkL : List Val → Bool
  | [] => true
  | x :: xs => okk x && okkL xs
end
theorem okkL_mem : ∀ {xs : List Val} {x : Val}, okkL xs = true → x ∈ xs → okk x = true
  | [], _, _, h => by cases h
  | y :: ys, x, h, hx => by
    unfold okkL at h
    rw [Bool.and_eq_true] at h
    rcases List.mem_cons.mp hx with e | e
    · rw [e]; exact h.1
    · exact okkL_mem h.2 e
theorem okkL_all : ∀ {xs : List Val}, (∀ x ∈ xs, okk x = true) → okkL xs = true
  | [], _ => by unfold okkL; rfl
  | y :: ys, h => by
    unfold okkL
    rw [h y List.mem_cons_self, okkL_all fun x hx => h x (List.mem_cons_of_mem _ hx)]; rfl
mutual
theorem okk_under (n : Nat) : ∀ {v : Val}, okk v = true → v.under n = true
  | .none, _ => by simp
  | .bool _, _ => by simp
  | .int _, _ => by simp
  | .str _, _ => by simp
  | .tup xs, h => by
    unfold okk at h
    rw [Bool.and_eq_true] at h
    rw [under_tup]; exact okkL_under n h.2
  | .fro _, h => by unfold okk at h; cases h
  | .kt _, h => by unfold okk at h; cases h
  | .ref _, h => by unfold okk at h; cases h
theorem okkL_under (n : Nat) : ∀ {v : List Val}, okkL v = true → Val.underL n v = true
  | [], _ => by simp
  | x :: xs, h => by
    unfold okkL at h
    rw [Bool.and_eq_true] at h
    rw [underL_cons, okk_under n h.1, okkL_under n h.2]; rfl
end
theorem depth_mem : ∀ {xs : List Val} {x : Val}, x ∈ xs → x.depth ≤ Val.depthL xs
  | [], _, h => by cases h
  | y :: ys, x, h => by
    rw [dpL_cons]
    rcases List.mem_cons.mp h with e | e
    · rw [e]; exact Nat.le_max_left _ _
    · exact Nat.le_trans (depth_mem e) (Nat.le_max_right _ _)
theorem run_same : ∀ (d : Nat) (v : Val) (m : Mem), okk v = true → v.depth < d → callN P d "_law_same" [v, v] m = .ok (.bool true) m
  | 0, v, m, h, hd => absurd hd (Nat.not_lt_zero _)
  | d + 1, v, m, h, hd => by
    rw [callN_fn e__law_same rfl]
    cases v with
    | none => simp [f__law_same, start, tyOf, isiK, cmpop, Val.isNone]
    | bool b => simp [f__law_same, start, tyOf, isiK, cmpop, Val.isNone, eqop, Val.eqv]
    | int i => simp [f__law_same, start, tyOf, isiK, cmpop, Val.isNone, eqop, Val.eqv]
    | str s => simp [f__law_same, start, tyOf, isiK, cmpop, Val.isNone, eqop, Val.eqv]
    | fro _ => unfold okk at h; cases h
    | kt _ => unfold okk at h; cases h
    | ref _ => unfold okk at h; cases h
    | tup xs =>
      unfold okk at h
      rw [Bool.and_eq_true] at h
      obtain ⟨h1, h2⟩ := h
      have h1 := of_decide_eq_true h1
      rw [dp_tup] at hd
      obtain ⟨n, en⟩ : ∃ n : Int, n = xs.length := ⟨_, rfl⟩
      have hl : ∀ m, bltop .len [.tup xs] m = .ok (.int n) m := fun m => by rw [en]; rfl
      have hj : -4611686018427387904 ≤ n ∧ n < 4611686018427387904 := by omega
      obtain ⟨l', m', e, hi, x2, el, em⟩ := for_all (chk := none) (t := .name 2) (b := execB P (callN P d) b__law_same_1) (xs := (List.range n.toNat).map fun (i : Nat) => .int i)
        (fun i l m' => i ≤ n.toNat ∧ ∃ (x2 : Option Val), l = [some (.tup xs), some (.tup xs), x2] ∧ m' = m)
        (fun _ _ _ _ => still_none _) (fun i x l m' hx hi => by
          obtain ⟨hin, ex⟩ := rng_get hx
          obtain ⟨_, x2, el, em⟩ := hi
          obtain ⟨k, ek, k0, k1⟩ : ∃ k : Int, x = .int k ∧ 0 ≤ k ∧ k.toNat < xs.length := ⟨_, ex, by omega, by omega⟩
          subst el em ek
          refine ⟨_, asg_name _ _ _ _, ?_⟩
          have hx := at_nat k0 k1
          have hm : xs[k.toNat] ∈ xs := List.getElem_mem k1
          have IH := run_same d xs[k.toNat] m' (okkL_mem h2 hm) (by have := depth_mem hm; omega)
          generalize xs[k.toNat] = y at hx IH
          have hix : idxop m' (.tup xs) (.int k) = some y := hx
          refine Flow.by (by simp [b__law_same_1, hix, IH] <;> rfl) ?_
          exact Flow.nx_of ⟨hin, _, rfl, rfl⟩) (l := [some (.tup xs), some (.tup xs), none]) (m := m) ⟨Nat.zero_le _, none, rfl, rfl⟩
      subst el em
      simp [f__law_same, start, tyOf, isiK, hl, hj, e]

end L34

namespace L34
open Py

/-! ### keys -/
abbrev TK := List (Int ⊕ List Nat)
def lv : Int ⊕ List Nat → Val
  | .inl i => .int i
  | .inr s => .str s
def tkV (k : TK) : Val := .tup (k.map lv)
theorem eqv_lv (a b : Int ⊕ List Nat) : (lv a).eqv (lv b) = decide (a = b) := by
  cases a with
  | inl i =>
    cases b with
    | inl j => by_cases e : i = j <;> simp [lv, Val.eqv, e]
    | inr t => simp [lv, Val.eqv]
  | inr s =>
    cases b with
    | inl j => simp [lv, Val.eqv]
    | inr t => by_cases e : s = t <;> simp [lv, Val.eqv, e]
theorem eqvL_lv : ∀ a b : TK, Val.eqvL (a.map lv) (b.map lv) = decide (a = b)
  | [], [] => by simp [Val.eqvL]
  | [], _ :: _ => by simp [Val.eqvL]
  | _ :: _, [] => by simp [Val.eqvL]
  | x :: xs, y :: ys => by
    rw [List.map_cons, List.map_cons, Val.eqvL, eqv_lv, eqvL_lv xs ys]
    simp [List.cons.injEq, Bool.decide_and]
theorem eqv_tk (a b : TK) : (tkV a).eqv (tkV b) = decide (a = b) := by unfold tkV; rw [Val.eqv]; exact eqvL_lv a b
theorem lv_pl (a : Int ⊕ List Nat) : (lv a).pl = true := by cases a <;> simp [lv]
theorem lv_dp (a : Int ⊕ List Nat) : (lv a).depth = 0 := by cases a <;> simp [lv]
theorem lv_okk (a : Int ⊕ List Nat) : okk (lv a) = true := by cases a <;> rfl
theorem lv_flat (a : Int ⊕ List Nat) : flatKey (lv a) = true := by cases a <;> rfl
theorem lvs_pl (k : TK) : Val.plL (k.map lv) = true := plL_all fun x hx => by obtain ⟨y, _, e⟩ := List.mem_map.mp hx; rw [← e]; exact lv_pl y
theorem lvs_dp (k : TK) : Val.depthL (k.map lv) = 0 := Nat.le_zero.mp (dpL_all fun x hx => by obtain ⟨y, _, e⟩ := List.mem_map.mp hx; rw [← e, lv_dp]; exact Nat.le_refl _)
theorem lvs_under (k : TK) (n : Nat) : Val.underL n (k.map lv) = true := underL_all fun x hx => by obtain ⟨y, _, e⟩ := List.mem_map.mp hx; rw [← e]; exact okk_under n (lv_okk y)
@[simp] theorem tk_pl (k : TK) : (tkV k).pl = true := by unfold tkV; rw [pl_tup]; exact lvs_pl k
@[simp] theorem tk_dp (k : TK) : (tkV k).depth = 1 := by unfold tkV; rw [dp_tup, lvs_dp]
@[simp] theorem tk_dat (k : TK) : (tkV k).dat = true := by unfold Val.dat; rw [tk_pl, tk_dp]; rfl
@[simp] theorem tk_under (k : TK) (n : Nat) : (tkV k).under n = true := by unfold tkV; rw [under_tup]; exact lvs_under k n
theorem tk_okk {k : TK} (h : k.length < 1000) : okk (tkV k) = true := by
  unfold tkV okk
  rw [okkL_all fun x hx => by obtain ⟨y, _, e⟩ := List.mem_map.mp hx; rw [← e]; exact lv_okk y, Bool.and_true]
  exact decide_eq_true (by rw [List.length_map]; omega)
theorem tk_eq (a b : TK) (m : Mem) : cmpop .eq (tkV a) (tkV b) m = some (decide (a = b)) := by
  show eqop m (tkV a) (tkV b) = _
  have h : eqop m (tkV a) (tkV b) = if (tkV a).dat && (tkV b).dat then some ((tkV a).eqv (tkV b)) else none := rfl
  rw [h, tk_dat, tk_dat, eqv_tk]; rfl
theorem lv_all : ∀ k : TK, (k.map lv).all flatKey = true
  | [] => rfl
  | a :: k => by rw [List.map_cons, List.all_cons, lv_flat, lv_all k]; rfl
theorem put_key (h : Int) (nm : List Nat) (r : TK) : putOk true (tkV (.inl h :: .inr nm :: r)) = true := by
  have e : putOk true (tkV (.inl h :: .inr nm :: r)) = (((Sum.inl h :: Sum.inr nm :: r : TK).map lv).all flatKey && keyTag ((Sum.inl h :: Sum.inr nm :: r : TK).map lv)) := rfl
  rw [e, lv_all]; rfl
theorem put_id (a b : Int) : putOk true (tkV [.inl a, .inl b]) = true := rfl

/-! ### what is a key -/
theorem run_between (d : Nat) (m : Mem) (x a b : Int) : callN P (d + 1) "is_between" [.int x, .int a, .int b] m = .ok (.bool (decide (a ≤ x) && decide (x ≤ b))) m := by
  rw [callN_fn e_is_between rfl]
  cases h : decide (a ≤ x) <;> simp [f_is_between, start, tyOf, isiK, h]
def letters : List Nat := [97, 98, 99, 100, 101, 102, 103, 104, 105, 106, 107, 108, 109, 110, 111, 112, 113, 114, 115, 116, 117, 118, 119, 120, 121, 122]
theorem gLetters : P.glob "LETTERS" = some (.str letters) := by rfl
theorem gMostL : P.glob "MOST_LETTERS" = some (.int 8) := by rfl
structure Wd (w : List Nat) : Prop where
  lo : 1 ≤ w.length
  hi : w.length ≤ 8
  ab : ∀ c ∈ w, c ∈ letters
theorem run_word (d : Nat) (m : Mem) {w : List Nat} (h : Wd w) : callN P (d + 1) "is_word" [.str w] m = .ok (.bool true) m := by
  rw [callN_fn e_is_word rfl]
  obtain ⟨n, en⟩ : ∃ n : Int, n = w.length := ⟨_, rfl⟩
  have hl : ∀ m, bltop .len [.str w] m = .ok (.int n) m := fun m => by
    have : bltop .len [.str w] m = if w.length ≤ SZ then .ok (.int w.length) m else .err := by
      unfold bltop lenop
      by_cases h : w.length ≤ SZ <;> simp [h]
    rw [this, if_pos (Nat.le_trans h.hi (by decide)), en]
  have h1 := h.lo
  have h2 := h.hi
  have n1 : (1 : Int) ≤ n := by omega
  have n2 : n ≤ 8 := by omega
  obtain ⟨l', m', e, x1, el, em⟩ := for_all (chk := none) (t := .name 1) (b := execB P (callN P d) b_is_word_1) (xs := w.map fun c => .str [c])
    (fun i l m' => ∃ (x1 : Option Val), l = [some (.str w), x1] ∧ m' = m)
    (fun _ _ _ _ => still_none _) (fun i x l m' hx hi => by
      obtain ⟨x1, el, em⟩ := hi
      subst el em
      rw [List.getElem?_map] at hx
      obtain ⟨c, hc, ec⟩ := Option.map_eq_some_iff.mp hx
      subst ec
      have hm := h.ab c (List.mem_of_getElem? hc)
      have hmem : cmpop .nmem (.str [c]) (.str letters) m' = some false := by
        show (memop m' (.str [c]) (.str letters)).map not = _
        have : memop m' (.str [c]) (.str letters) = if letters.length ≤ SZ then some (decide (c ∈ letters)) else none := rfl
        rw [this, if_pos (by decide), decide_eq_true hm]; rfl
      refine ⟨_, asg_name _ _ _ _, ?_⟩
      refine Flow.by (by simp [b_is_word_1, gLetters, hmem] <;> rfl) ?_
      exact Flow.nx_of ⟨_, rfl, rfl⟩) (l := [some (.str w), none]) (m := m) ⟨none, rfl, rfl⟩
  subst el em
  simp [f_is_word, start, tyOf, isiK, hl, gMostL, n1, n2, e]

/-! texts -/
abbrev sWord : List Nat := [119, 111, 114, 100]
abbrev sCustomer : List Nat := [99, 117, 115, 116, 111, 109, 101, 114]
abbrev sNumber : List Nat := [110, 117, 109, 98, 101, 114]
abbrev sBuyer : List Nat := [98, 117, 121, 101, 114]
/-- a part of a key -/
inductive Part : Int ⊕ List Nat → List Nat → Prop
  | word (w : List Nat) (h : Wd w) : Part (.inr w) sWord
  | customer (i : Int) (h : 0 ≤ i ∧ i ≤ 9) : Part (.inl i) sCustomer
  | number (i : Int) (h : 1 ≤ i ∧ i ≤ 999) : Part (.inl i) sNumber
  | buyer (i : Int) (h : 1 ≤ i ∧ i ≤ 9) : Part (.inl i) sBuyer
inductive Fit : TK → List (List Nat) → Prop
  | nil : Fit [] []
  | cons {x : Int ⊕ List Nat} {p : List Nat} {xs ps} (h : Part x p) (t : Fit xs ps) : Fit (x :: xs) (p :: ps)
theorem Fit.len {xs ps} (h : Fit xs ps) : xs.length = ps.length := by
  induction h with
  | nil => rfl
  | cons _ _ ih => simp [ih]
def tRanges : List (List Nat × Val) := [([99, 117, 115, 116, 111, 109, 101, 114], .kt [0, 9]), ([98, 117, 121, 101, 114], .kt [1, 9]), ([110, 117, 109, 98, 101, 114], .kt [1, 999]), ([115, 116, 111, 114, 101], .kt [2, 4]), ([99, 111, 117, 110, 116], .kt [1, 999]), ([99, 111, 105, 110, 115], .kt [0, 99999]), ([115, 111, 109, 101, 32, 99, 111, 105, 110, 115], .kt [1, 99999]), ([114, 97, 116, 101], .kt [0, 999])]
theorem pRanges : P.tab "RANGES" = some tRanges := by rfl
theorem run_fits (d : Nat) (m : Mem) {x : Int ⊕ List Nat} {p : List Nat} (h : Part x p) : callN P (d + 2) "fits" [lv x, .str p] m = .ok (.bool true) m := by
  rw [callN_fn e_fits rfl]
  cases h with
  | word w h =>
    have e : tinR P false "RANGES" (.str sWord) m = .ok (.bool false) m := by unfold tinR; simp only [pRanges]; rfl
    have e2 : cmpop .eq (.str sWord) (.str sWord) m = some true := by simp [cmpop, eqop, Val.eqv]
    simp [f_fits, start, lv, e, e2, run_word d m h]
  | customer i h =>
    have e : tinR P false "RANGES" (.str sCustomer) m = .ok (.bool true) m := by unfold tinR; simp only [pRanges]; rfl
    have e2 : tixR P "RANGES" (.str sCustomer) m = .ok (.kt [0, 9]) m := by unfold tixR; simp only [pRanges]; rfl
    simp [f_fits, start, lv, e, e2, run_between, h]
  | number i h =>
    have e : tinR P false "RANGES" (.str sNumber) m = .ok (.bool true) m := by unfold tinR; simp only [pRanges]; rfl
    have e2 : tixR P "RANGES" (.str sNumber) m = .ok (.kt [1, 999]) m := by unfold tixR; simp only [pRanges]; rfl
    simp [f_fits, start, lv, e, e2, run_between, h]
  | buyer i h =>
    have e : tinR P false "RANGES" (.str sBuyer) m = .ok (.bool true) m := by unfold tinR; simp only [pRanges]; rfl
    have e2 : tixR P "RANGES" (.str sBuyer) m = .ok (.kt [1, 9]) m := by unfold tixR; simp only [pRanges]; rfl
    simp [f_fits, start, lv, e, e2, run_between, h]
theorem Fit.get {xs ps} (h : Fit xs ps) : ∀ {i : Nat} {x : Int ⊕ List Nat} {p : List Nat}, xs[i]? = some x → ps[i]? = some p → Part x p := by
  induction h with
  | nil => intro i x p h; simp at h
  | cons a _ ih =>
    intro i x p h1 h2
    cases i with
    | zero => simp at h1 h2; subst h1 h2; exact a
    | succ i => simp at h1 h2; exact ih h1 h2
theorem len_tup (xs : List Val) (m : Mem) : bltop .len [.tup xs] m = .ok (.int xs.length) m := id rfl
theorem run_fit (d : Nat) (m : Mem) {xs : TK} {ps : List (List Nat)} (h : Fit xs ps) : callN P (d + 3) "fit" [.tup (xs.map lv), .tup (ps.map .str)] m = .ok (.bool true) m := by
  rw [callN_fn e_fit rfl]
  obtain ⟨n, en⟩ : ∃ n : Int, n = xs.length := ⟨_, rfl⟩
  have l1 : bltop .len [.tup (xs.map lv)] m = .ok (.int n) m := by rw [len_tup, List.length_map, en]
  have l2 : bltop .len [.tup (ps.map .str)] m = .ok (.int n) m := by rw [len_tup, List.length_map, en, h.len]
  obtain ⟨l', m', e, x2, x3, el, em⟩ := for_all (chk := none) (t := .tup [.name 2, .name 3]) (b := execB P (callN P (d + 2)) b_fit_1) (xs := ((xs.map lv).zip (ps.map Val.str)).map fun p => .tup [p.1, p.2])
    (fun i l m' => ∃ (x2 x3 : Option Val), l = [some (.tup (xs.map lv)), some (.tup (ps.map .str)), x2, x3] ∧ m' = m)
    (fun _ _ _ _ => still_none _) (fun i x l m' hx hi => by
      obtain ⟨x2, x3, el, em⟩ := hi
      subst el em
      rw [List.getElem?_map] at hx
      obtain ⟨⟨a, b⟩, hc, ec⟩ := Option.map_eq_some_iff.mp hx
      obtain ⟨h1, h2⟩ := List.getElem?_zip_eq_some.mp hc
      rw [List.getElem?_map] at h1 h2
      obtain ⟨k, k1, k2⟩ := Option.map_eq_some_iff.mp h1
      obtain ⟨p, p1, p2⟩ := Option.map_eq_some_iff.mp h2
      simp only at k2 p2
      subst ec k2 p2
      have r := run_fits d m' (h.get k1 p1)
      refine ⟨_, by simp; rfl, ?_⟩
      refine Flow.by (by simp [b_fit_1, r] <;> rfl) ?_
      exact Flow.nx_of ⟨_, _, rfl, rfl⟩) (l := [some (.tup (xs.map lv)), some (.tup (ps.map .str)), none, none]) (m := m) ⟨none, none, rfl, rfl⟩
  subst el em
  have z : ∀ m, zipR (.tup (xs.map lv)) (.tup (ps.map .str)) m = .ok (((xs.map lv).zip (ps.map Val.str)).map (fun p => .tup [p.1, p.2]), none) m := fun _ => rfl
  simp [f_fit, start, l1, l2, z, e]

def tParts : List (List Nat × List (List Nat)) := [([112, 114, 105, 99, 101], [[119, 111, 114, 100]]), ([114, 97, 116, 101], []), ([99, 111, 117, 112, 111, 110], [[119, 111, 114, 100]]), ([111, 114, 100, 101, 114], [[99, 117, 115, 116, 111, 109, 101, 114], [110, 117, 109, 98, 101, 114]]), ([114, 111, 97, 100], [[99, 117, 115, 116, 111, 109, 101, 114], [110, 117, 109, 98, 101, 114]]), ([97, 119, 97, 121], [[119, 111, 114, 100]]), ([99, 97, 109, 101], [[119, 111, 114, 100]]), ([102, 114, 101, 101], [[119, 111, 114, 100]]), ([104, 101, 108, 100], [[119, 111, 114, 100]]), ([111, 117, 116], [[119, 111, 114, 100]]), ([112, 117, 114, 115, 101], [[98, 117, 121, 101, 114]]), ([107, 101, 112, 116], []), ([116, 105, 108, 108], []), ([112, 97, 105, 100], [])]
theorem pParts : P.tab "KEY_PARTS" = some (tParts.map fun r => (r.1, .tup (r.2.map .str))) := by rfl
def offN : List (List Nat) := [[112, 114, 105, 99, 101], [114, 97, 116, 101], [99, 111, 117, 112, 111, 110], [111, 114, 100, 101, 114], [114, 111, 97, 100], [97, 119, 97, 121]]
def stoN : List (List Nat) := [[99, 97, 109, 101], [102, 114, 101, 101], [104, 101, 108, 100], [111, 117, 116]]
def recN : List (List Nat) := [[112, 114, 105, 99, 101], [114, 97, 116, 101], [99, 111, 117, 112, 111, 110], [111, 114, 100, 101, 114], [114, 111, 97, 100]]
theorem gOff : P.glob "OFFICE_NAMES" = some (.tup (offN.map .str)) := by rfl
theorem gSto : P.glob "STORE_NAMES" = some (.tup (stoN.map .str)) := by rfl
theorem gRec : P.glob "RECORD_NAMES" = some (.tup (recN.map .str)) := by rfl
theorem gO : P.glob "OFFICE" = some (.int 1) := by rfl
theorem gB : P.glob "BANK" = some (.int 5) := by rfl
theorem gS : P.glob "STORES" = some (.tup [.int 2, .int 3, .int 4]) := by rfl
theorem any_str (nm : List Nat) : ∀ l : List (List Nat), ((l.map Val.str).any fun z => z.eqv (.str nm)) = decide (nm ∈ l)
  | [] => by simp
  | a :: l => by
    rw [List.map_cons, List.any_cons, any_str nm l]
    by_cases e : a = nm
    · subst e; simp [Val.eqv]
    · have : ¬ nm = a := fun z => e z.symm
      simp [Val.eqv, e, this]
theorem eq_str (a b : List Nat) (m : Mem) : cmpop .eq (.str a) (.str b) m = some (decide (a = b)) := by
  have : cmpop .eq (.str a) (.str b) m = if (Val.str a).dat && (Val.str b).dat then some ((Val.str a).eqv (.str b)) else none := rfl
  rw [this, dat_str, dat_str]
  by_cases e : a = b <;> simp [Val.eqv, e]
theorem ne_str (a b : List Nat) (m : Mem) : cmpop .ne (.str a) (.str b) m = some (!decide (a = b)) := by
  have h := eq_str a b m
  have : cmpop .ne (.str a) (.str b) m = (cmpop .eq (.str a) (.str b) m).map not := rfl
  rw [this, h]; rfl
theorem pl_strs : ∀ l : List (List Nat), Val.plL (l.map Val.str) = true
  | [] => by simp
  | a :: l => by rw [List.map_cons, plL_cons, pl_strs l]; simp
theorem dp_strs : ∀ l : List (List Nat), Val.depthL (l.map Val.str) = 0
  | [] => by simp
  | a :: l => by rw [List.map_cons, dpL_cons, dp_strs l]; simp
theorem mem_strs (nm : List Nat) (l : List (List Nat)) (m : Mem) : memop m (.str nm) (.tup (l.map .str)) = some (decide (nm ∈ l)) := by
  have : memop m (.str nm) (.tup (l.map .str)) = if (Val.str nm).dat && datL (l.map Val.str) then some ((l.map Val.str).any fun z => z.eqv (.str nm)) else none := rfl
  rw [this, any_str, dat_str]
  unfold datL
  rw [pl_strs, dp_strs]; rfl
/-- whose name it is -/
def hasN (h : Int) (nm : List Nat) : Bool := if nm ∈ offN then h == 1 else if nm ∈ stoN then (h == 2 || h == 3 || h == 4) else h == 5
theorem run_has (d : Nat) (m : Mem) (h : Int) (nm : List Nat) : callN P (d + 1) "has_name" [.int h, .str nm] m = .ok (.bool (hasN h nm)) m := by
  rw [callN_fn e_has_name rfl]
  have e1 : cmpop .mem (.str nm) (.tup (offN.map .str)) m = some (decide (nm ∈ offN)) := mem_strs nm offN m
  have e2 : cmpop .mem (.str nm) (.tup (stoN.map .str)) m = some (decide (nm ∈ stoN)) := mem_strs nm stoN m
  have e3 : cmpop .mem (.int h) (.tup [.int 2, .int 3, .int 4]) m = some (h == 2 || h == 3 || h == 4) := by
    show memop m (.int h) (.tup [.int 2, .int 3, .int 4]) = _
    have : memop m (.int h) (.tup [.int 2, .int 3, .int 4]) = if (Val.int h).dat && datL [Val.int 2, .int 3, .int 4] then some ([Val.int 2, .int 3, .int 4].any fun z => z.eqv (.int h)) else none := rfl
    rw [this, dat_int, if_pos (by rfl)]
    have c : ∀ a b : Int, (a == b) = (b == a) := fun a b => by
      by_cases e : a = b
      · subst e; rfl
      · have e' : ¬ b = a := fun z => e z.symm
        rw [beq_eq_false_iff_ne.mpr e, beq_eq_false_iff_ne.mpr e']
    simp only [List.any_cons, List.any_nil, Val.eqv, Bool.or_false]
    rw [c 2, c 3, c 4, Bool.or_assoc]
  unfold hasN
  by_cases q1 : nm ∈ offN
  · simp [f_has_name, start, gOff, e1, q1, gO]
  · by_cases q2 : nm ∈ stoN
    · simp [f_has_name, start, gOff, gSto, gS, e1, e2, e3, q1, q2]
    · simp [f_has_name, start, gOff, gSto, gB, e1, e2, q1, q2]
/-- a key -/
structure KOk (h : Int) (nm : List Nat) (r : TK) : Prop where
  parts : ∃ ps, tParts.lookup nm = some ps ∧ Fit r ps
  name : hasN h nm = true
  house : 1 ≤ h ∧ h ≤ 5
theorem lookup_mapv {β γ : Type} (f : β → γ) : ∀ (l : List (List Nat × β)) (a : List Nat), (l.map fun r => (r.1, f r.2)).lookup a = (l.lookup a).map f
  | [], _ => rfl
  | (x, y) :: r, a => by
    rw [List.map_cons, List.lookup_cons, List.lookup_cons]
    cases a == x
    · exact lookup_mapv f r a
    · rfl
theorem run_key (d : Nat) (m : Mem) {h : Int} {nm : List Nat} {r : TK} (k : KOk h nm r) : callN P (d + 4) "is_key" [tkV (.inl h :: .inr nm :: r)] m = .ok (.bool true) m := by
  rw [callN_fn e_is_key rfl]
  obtain ⟨⟨ps, h1, h2⟩, h3, h4, h5⟩ := k
  have hl : (tParts.map fun r => (r.1, Val.tup (r.2.map .str))).lookup nm = some (.tup (ps.map .str)) := by
    rw [lookup_mapv (fun l : List (List Nat) => Val.tup (l.map .str)), h1]; rfl
  have e1 : tinR P true "KEY_PARTS" (.str nm) m = .ok (.bool false) m := by unfold tinR; simp only [pParts, hl]; rfl
  have e2 : tixR P "KEY_PARTS" (.str nm) m = .ok (.tup (ps.map .str)) m := by unfold tixR; simp only [pParts, hl]
  have e3 := run_fit d m h2
  obtain ⟨n, en, n2⟩ : ∃ n : Int, n = (tkV (.inl h :: .inr nm :: r) |> fun _ => ((r.length + 2 : Nat) : Int)) ∧ ¬ n < 2 := ⟨_, rfl, by show ¬ (((r.length + 2 : Nat) : Int) < 2); omega⟩
  have e4 : bltop .len [tkV (.inl h :: .inr nm :: r)] m = .ok (.int n) m := by
    unfold tkV; rw [len_tup, en]; simp; omega
  have e5 : idxop m (tkV (.inl h :: .inr nm :: r)) (.int 1) = some (.str nm) := by
    show atIx _ 1 = _
    rw [at_nat (by decide) (by simp)]; rfl
  have e6 : idxop m (tkV (.inl h :: .inr nm :: r)) (.int 0) = some (.int h) := by
    show atIx _ 0 = _
    rw [at_nat (by decide) (by simp)]; rfl
  have e7 : sliceop m (tkV (.inl h :: .inr nm :: r)) (some 2) none = .ok (.tup (r.map lv)) m := by
    show Res.ok (Val.tup (cut _ (some 2) none)) m = _
    congr 2
    simp [cut, cutIx, lv]
    exact List.take_of_length_le (by simp)
  have e8 : tyOf m (tkV (.inl h :: .inr nm :: r)) = some .tuple := rfl
  have e9 : tyOf m (.str nm) = some .str := rfl
  generalize tkV (.inl h :: .inr nm :: r) = kv at e4 e5 e6 e7 e8 ⊢
  simp [f_is_key, start, e8, e9, isiK, e4, n2, e5, e1, e2, e7, e3, e6, gO, gB, run_between, h4, h5, run_has, h3]
theorem run_keyof (d : Nat) (m : Mem) {h : Int} {nm : List Nat} {r : TK} (k : KOk h nm r) : callN P (d + 5) "is_key_of" [.int h, tkV (.inl h :: .inr nm :: r)] m = .ok (.bool true) m := by
  rw [callN_fn e_is_key_of rfl]
  have e6 : idxop m (tkV (.inl h :: .inr nm :: r)) (.int 0) = some (.int h) := by
    show atIx _ 0 = _
    rw [at_nat (by decide) (by simp)]; rfl
  simp [f_is_key_of, start, run_key d m k, e6]
theorem run_amount (d : Nat) (m : Mem) {h : Int} {nm : List Nat} {r : TK} (k : KOk h nm r) : callN P (d + 5) "is_amount" [tkV (.inl h :: .inr nm :: r)] m = .ok (.bool (!decide (nm ∈ recN))) m := by
  rw [callN_fn e_is_amount rfl]
  have e5 : idxop m (tkV (.inl h :: .inr nm :: r)) (.int 1) = some (.str nm) := by
    show atIx _ 1 = _
    rw [at_nat (by decide) (by simp)]; rfl
  have e1 : cmpop .nmem (.str nm) (.tup (recN.map .str)) m = some (!decide (nm ∈ recN)) := by
    show (memop m (.str nm) (.tup (recN.map .str))).map not = _
    rw [mem_strs]; rfl
  simp [f_is_amount, start, run_key d m k, e5, gRec, e1]
def firstV (nm : List Nat) : Val := if nm ∈ recN ∧ nm ≠ [114, 97, 116, 101] then .none else .int 0
theorem run_first (d : Nat) (m : Mem) {h : Int} {nm : List Nat} {r : TK} (k : KOk h nm r) : callN P (d + 6) "first_value" [tkV (.inl h :: .inr nm :: r)] m = .ok (firstV nm) m := by
  rw [callN_fn e_first_value rfl]
  have e5 : idxop m (tkV (.inl h :: .inr nm :: r)) (.int 1) = some (.str nm) := by
    show atIx _ 1 = _
    rw [at_nat (by decide) (by simp)]; rfl
  have e1 : cmpop .eq (.str nm) (.str [114, 97, 116, 101]) m = some (decide (nm = [114, 97, 116, 101])) := by
    exact eq_str _ _ _
  unfold firstV
  by_cases q1 : nm ∈ recN
  · by_cases q2 : nm = [114, 97, 116, 101]
    · have e2 := e1
      rw [decide_eq_true q2] at e2
      rw [if_neg (fun z => z.2 q2)]
      simp [f_first_value, start, run_amount d m k, e5, e2, q1]
    · have e2 := e1
      rw [decide_eq_false q2] at e2
      rw [if_pos ⟨q1, q2⟩]
      simp [f_first_value, start, run_amount d m k, e5, e2, q1]
  · simp [f_first_value, start, run_amount d m k, q1]

end L34

namespace L34
open Py
/-! ### finite maps -/
section
variable {κ α : Type} [DecidableEq κ]
def look2 (l : List (κ × α)) (k : κ) : Option α := (l.find? fun p => decide (p.1 = k)).map (·.2)
def put2 (l : List (κ × α)) (k : κ) (v : α) : List (κ × α) := if (l.any fun p => decide (p.1 = k)) = true then l.map (fun p => if p.1 = k then (p.1, v) else p) else l ++ [(k, v)]
def del2 (l : List (κ × α)) (k : κ) : List (κ × α) := l.filter fun p => !decide (p.1 = k)
variable (K : κ → Val) (f : α → Val)
def mp (l : List (κ × α)) : List (Val × Val) := l.map fun p => (K p.1, f p.2)
variable {K} {f}
theorem dlook_mp (hK : ∀ a b, (K a).eqv (K b) = decide (a = b)) (k : κ) : ∀ l : List (κ × α), dlook (mp K f l) (K k) = (look2 l k).map f
  | [] => rfl
  | p :: l => by
    have ih := dlook_mp hK k l
    unfold dlook look2 mp at ih ⊢
    rw [List.map_cons]
    by_cases e : p.1 = k
    · rw [List.find?_cons_of_pos (by rw [hK]; exact decide_eq_true e), List.find?_cons_of_pos (by exact decide_eq_true e)]; rfl
    · rw [List.find?_cons_of_neg (by rw [hK]; simp [e]), List.find?_cons_of_neg (by simp [e])]; exact ih
theorem any_mp (hK : ∀ a b, (K a).eqv (K b) = decide (a = b)) (k : κ) : ∀ l : List (κ × α), ((mp K f l).any fun p => p.1.eqv (K k)) = l.any fun p => decide (p.1 = k)
  | [] => rfl
  | p :: l => by
    have ih := any_mp hK k l
    unfold mp at ih ⊢
    rw [List.map_cons, List.any_cons, List.any_cons, ih, hK]
theorem dput_mp (hK : ∀ a b, (K a).eqv (K b) = decide (a = b)) (k : κ) (v : α) (l : List (κ × α)) : dput (mp K f l) (K k) (f v) = mp K f (put2 l k v) := by
  unfold dput put2
  rw [any_mp hK]
  split
  · unfold mp
    rw [List.map_map, List.map_map]
    refine List.map_congr_left fun p _ => ?_
    show (if (K p.1).eqv (K k) = true then (K p.1, f v) else (K p.1, f p.2)) = _
    rw [hK]
    by_cases e : p.1 = k <;> simp [e]
  · unfold mp; simp
theorem ddel_mp (hK : ∀ a b, (K a).eqv (K b) = decide (a = b)) (k : κ) : ∀ l : List (κ × α), ddel (mp K f l) (K k) = mp K f (del2 l k)
  | [] => rfl
  | p :: l => by
    have ih := ddel_mp hK k l
    unfold ddel del2 mp at ih ⊢
    rw [List.map_cons]
    by_cases e : p.1 = k
    · rw [List.filter_cons_of_neg (by rw [hK]; simp [e]), List.filter_cons_of_neg (by simp [e])]; exact ih
    · rw [List.filter_cons_of_pos (by rw [hK]; simp [e]), List.filter_cons_of_pos (by simp [e]), List.map_cons, ih]
theorem put2_len (l : List (κ × α)) (k : κ) (v : α) : (put2 l k v).length ≤ l.length + 1 := by unfold put2; split <;> simp
end

/-! ### a counter -/
abbrev Ky := Int × List Nat × TK
def kyT (k : Ky) : TK := .inl k.1 :: .inr k.2.1 :: k.2.2
def kyV (k : Ky) : Val := tkV (kyT k)
theorem kyT_inj {a b : Ky} : kyT a = kyT b ↔ a = b := by
  obtain ⟨a1, a2, a3⟩ := a
  obtain ⟨b1, b2, b3⟩ := b
  simp [kyT]
theorem ky_eqv (a b : Ky) : (kyV a).eqv (kyV b) = decide (a = b) := by
  unfold kyV; rw [eqv_tk]
  by_cases e : a = b
  · subst e; simp
  · have : ¬ kyT a = kyT b := fun z => e (kyT_inj.mp z)
    simp [e, this]
theorem ky_eq (a b : Ky) (m : Mem) : cmpop .eq (kyV a) (kyV b) m = some (decide (a = b)) := by
  unfold kyV; rw [tk_eq]
  by_cases e : a = b
  · subst e; simp
  · have : ¬ kyT a = kyT b := fun z => e (kyT_inj.mp z)
    simp [e, this]
@[simp] theorem ky_under (k : Ky) (n : Nat) : (kyV k).under n = true := tk_under _ n
@[simp] theorem ky_pl (k : Ky) : (kyV k).pl = true := tk_pl _
@[simp] theorem ky_dp (k : Ky) : (kyV k).depth = 1 := tk_dp _
theorem ky_put (k : Ky) : putOk true (kyV k) = true := put_key _ _ _
theorem pv_tk (p : Int × Int) : pv p = tkV [.inl p.1, .inl p.2] := rfl
theorem id_eqv (a b : Int × Int) : (pv a).eqv (pv b) = decide (a = b) := by
  rw [pv_tk, pv_tk, eqv_tk]
  obtain ⟨a1, a2⟩ := a
  obtain ⟨b1, b2⟩ := b
  by_cases e : a1 = b1 <;> by_cases e2 : a2 = b2 <;> simp [e, e2]
@[simp] theorem id_under (k : Int × Int) (n : Nat) : (pv k).under n = true := by rw [pv_tk]; exact tk_under _ n
@[simp] theorem id_pl (k : Int × Int) : (pv k).pl = true := by rw [pv_tk]; exact tk_pl _
@[simp] theorem id_dp (k : Int × Int) : (pv k).depth = 1 := by rw [pv_tk]; exact tk_dp _
theorem id_put (k : Int × Int) : putOk true (pv k) = true := rfl
theorem id_eq (a b : Int × Int) (m : Mem) : cmpop .eq (pv a) (pv b) m = some (decide (a = b)) := by
  have h : cmpop .eq (pv a) (pv b) m = if (pv a).dat && (pv b).dat then some ((pv a).eqv (pv b)) else none := rfl
  rw [h, id_eqv, pv_tk, pv_tk, tk_dat, tk_dat]; rfl
abbrev Id := Int × Int
abbrev Rq := Ky × List Nat × Int
abbrev Gr := Ky × List Nat × Int
def grV (g : Gr) : Val := .tup [kyV g.1, .str g.2.1, .int g.2.2]
def grs (l : List Gr) : Val := .tup (l.map grV)
def askV (a : Id × List Rq) : Val := .tup [pv a.1, grs a.2]
def sGranted : List Nat := [103, 114, 97, 110, 116, 101, 100]
def sEnded : List Nat := [101, 110, 100, 101, 100]
def entV (e : Bool × Id) : Val := .tup [.str (if e.1 then sGranted else sEnded), pv e.2]
@[simp] theorem gr_under (g : Gr) (n : Nat) : (grV g).under n = true := by unfold grV; simp
@[simp] theorem grs_under (g : List Gr) (n : Nat) : (grs g).under n = true := by
  unfold grs; rw [under_tup]; exact underL_all fun x hx => by obtain ⟨y, _, e⟩ := List.mem_map.mp hx; rw [← e]; simp
@[simp] theorem ask_under (g : Id × List Rq) (n : Nat) : (askV g).under n = true := by unfold askV; simp
@[simp] theorem ent_under (g : Bool × Id) (n : Nat) : (entV g).under n = true := by unfold entV; simp
structure Ct where
  house : Int
  vals : List (Ky × Val)
  asks : List (Id × List Rq)
  grants : List (Id × List Gr)
  ent : List (Bool × Id)
def fs (house : Int) (a b g e : Nat) : List (PySem.Str × Val) := [("house", .int house), ("values_now", .ref a), ("asks", .ref b), ("grants", .ref g), ("entries", .ref e)]
structure CtA (m : Mem) (c a b g e : Nat) (s : Ct) : Prop where
  o : m[c]? = some (.inst "Counter" (fs s.house a b g e))
  av : m[a]? = some (.dict true (mp kyV id s.vals))
  bv : m.list b = some (s.asks.map askV)
  gv : m[g]? = some (.dict true (mp pv grs s.grants))
  ev : m.list e = some (s.ent.map entV)
  ag : a ≠ g
  be : b ≠ e
theorem pr1 : P.prop "Counter" "house" = none := by kernel_rfl
theorem pr2 : P.prop "Counter" "values_now" = none := by kernel_rfl
theorem pr3 : P.prop "Counter" "asks" = none := by kernel_rfl
theorem pr4 : P.prop "Counter" "grants" = none := by kernel_rfl
theorem pr5 : P.prop "Counter" "entries" = none := by kernel_rfl
theorem callN_mth {P : Prog} {d : Nat} {f : PySem.Str} {fd : Fn} {vs : List Val} {m : Mem} (h : P.ent f = some (.mth fd)) (hl : vs.length = fd.np) : callN P (d + 1) f vs m = gc m (retOf (execB P (callN P d) fd.body (start fd.ns vs) m)) := by
  rw [callN, h]; simp only; rw [if_pos hl]
section
variable {m : Mem} {c a b g e : Nat} {s : Ct}
theorem CtA.app (h : CtA m c a b g e s) (t : Mem) : CtA (m ++ t) c a b g e s := ⟨get_app h.o, get_app h.av, list_app h.bv, get_app h.gv, list_app h.ev, h.ag, h.be⟩
variable {hs : Int} (C : Calls)
theorem at_house (h : m[c]? = some (.inst "Counter" (fs hs a b g e))) : attrP P C "house" (.ref c) m = .ok (.int hs) m := attr_fld h pr1 rfl
theorem at_vals (h : m[c]? = some (.inst "Counter" (fs hs a b g e))) : attrP P C "values_now" (.ref c) m = .ok (.ref a) m := attr_fld h pr2 rfl
theorem at_asks (h : m[c]? = some (.inst "Counter" (fs hs a b g e))) : attrP P C "asks" (.ref c) m = .ok (.ref b) m := attr_fld h pr3 rfl
theorem at_grants (h : m[c]? = some (.inst "Counter" (fs hs a b g e))) : attrP P C "grants" (.ref c) m = .ok (.ref g) m := attr_fld h pr4 rfl
theorem at_ents (h : m[c]? = some (.inst "Counter" (fs hs a b g e))) : attrP P C "entries" (.ref c) m = .ok (.ref e) m := attr_fld h pr5 rfl
end
def stOn (G : List (Id × List Gr)) (k : Ky) : List (List Nat × Int) := G.flatMap fun p => p.2.filterMap fun q => if q.1 = k then some q.2 else none
def stV (x : List Nat × Int) : Val := .tup [.str x.1, .int x.2]
@[simp] theorem st_under (g : List Nat × Int) (n : Nat) : (stV g).under n = true := by unfold stV; simp
def gsum (G : List (Id × List Gr)) : Nat := (G.map fun p => p.2.length).sum
theorem filterMap_snoc {α β : Type} (f : α → Option β) (l : List α) (x : α) : (l ++ [x]).filterMap f = l.filterMap f ++ (f x).toList := by
  rw [List.filterMap_append]; cases e : f x <;> simp [List.filterMap_cons, e]
theorem take_snoc {α : Type} {l : List α} {i : Nat} {x : α} (h : l[i]? = some x) : l.take (i + 1) = l.take i ++ [x] := by
  rw [List.take_succ, h]; rfl
theorem st_inner (C : Calls) (mL : Mem) (v0 : Val) (k : Ky) (gs : List Gr) (acc : List (List Nat × Int)) (hz : acc.length + gs.length < 1000000) (x3 x4 x5 x6 : Option Val) :
    ∃ l' m', forLoop none (.tup [.name 4, .name 5, .name 6]) (execB P C b_Counter_dot_standing_on_1) (gs.map grV) [some v0, some (kyV k), some (.ref mL.length), x3, x4, x5, x6] (mL ++ [.list (acc.map stV)]) = .nx l' m' ∧
      ∃ x4 x5 x6, l' = [some v0, some (kyV k), some (.ref mL.length), x3, x4, x5, x6] ∧ m' = mL ++ [.list ((acc ++ gs.filterMap fun q => if q.1 = k then some q.2 else none).map stV)] := by
  obtain ⟨l', m', e, _, y4, y5, y6, el, em⟩ := for_all (chk := none) (t := .tup [.name 4, .name 5, .name 6]) (b := execB P C b_Counter_dot_standing_on_1) (xs := gs.map grV)
    (fun i l m' => i ≤ gs.length ∧ ∃ x4 x5 x6, l = [some v0, some (kyV k), some (.ref mL.length), x3, x4, x5, x6] ∧ m' = mL ++ [.list ((acc ++ (gs.take i).filterMap fun q => if q.1 = k then some q.2 else none).map stV)])
    (fun _ _ _ _ => still_none _) (fun i x l m' hx hi => by
      obtain ⟨_, y4, y5, y6, el, em⟩ := hi
      subst el em
      rw [List.getElem?_map] at hx
      obtain ⟨q, hq, eq⟩ := Option.map_eq_some_iff.mp hx
      subst eq
      have hil : i < gs.length := (List.getElem?_eq_some_iff.mp hq).1
      obtain ⟨qk, qs, qi⟩ := q
      refine ⟨_, by simp [grV]; rfl, ?_⟩
      have hl : ((acc ++ (gs.take i).filterMap fun q : Gr => if q.1 = k then some q.2 else none).map stV).length < SZ := by
        rw [List.length_map, List.length_append]
        have := List.length_filterMap_le (fun q : Gr => if q.1 = k then some q.2 else none) (gs.take i)
        have h2 : (gs.take i).length ≤ gs.length := by rw [List.length_take]; exact Nat.min_le_right _ _
        unfold SZ; omega
      rw [take_snoc hq, filterMap_snoc]
      have e1 := fun m => ky_eq qk k m
      by_cases ek : qk = k
      · have e2 : ∀ m, cmpop .eq (kyV qk) (kyV k) m = some true := fun m => by rw [e1, decide_eq_true ek]
        rw [if_pos ek]
        obtain ⟨A, hA⟩ : ∃ A, A = (acc ++ (gs.take i).filterMap fun q : Gr => if q.1 = k then some q.2 else none).map stV := ⟨_, rfl⟩
        rw [← hA] at hl ⊢
        refine Flow.by (r' := .nx [some v0, some (kyV k), some (.ref mL.length), x3, some (kyV qk), some (.str qs), some (.int qi)] (mL ++ [.list (A ++ [stV (qs, qi)])])) (by simp [b_Counter_dot_standing_on_1, e2, recv_list (mem_new _ _), bm_app (mem_new _ _) hl, show (2 : Nat) ≤ SZ by decide, stV]) ?_
        exact Flow.nx_of ⟨hil, _, _, _, rfl, by rw [hA]; simp⟩
      · have e2 : ∀ m, cmpop .eq (kyV qk) (kyV k) m = some false := fun m => by rw [e1, decide_eq_false ek]
        rw [if_neg ek]
        refine Flow.by (r' := .nx [some v0, some (kyV k), some (.ref mL.length), x3, some (kyV qk), some (.str qs), some (.int qi)] (mL ++ [.list ((acc ++ (gs.take i).filterMap fun q => if q.1 = k then some q.2 else none).map stV)])) (by simp [b_Counter_dot_standing_on_1, e2]) ?_
        exact Flow.nx_of ⟨hil, _, _, _, rfl, by simp⟩) (l := [some v0, some (kyV k), some (.ref mL.length), x3, x4, x5, x6]) (m := mL ++ [.list (acc.map stV)]) ⟨Nat.zero_le _, x4, x5, x6, rfl, by simp⟩
  rw [List.length_map, List.take_length] at em
  exact ⟨l', m', e, y4, y5, y6, el, em⟩

theorem gsum_take : ∀ {G : List (Id × List Gr)} {i : Nat} {p : Id × List Gr}, G[i]? = some p → gsum (G.take i) + p.2.length ≤ gsum G
  | [], i, p, h => by simp at h
  | q :: G, 0, p, h => by
    simp at h
    subst h
    simp [gsum]
  | q :: G, i + 1, p, h => by
    simp at h
    have := gsum_take h
    simp [gsum] at this ⊢
    omega
theorem stOn_len (G : List (Id × List Gr)) (k : Ky) : (stOn G k).length ≤ gsum G := by
  unfold stOn gsum
  induction G with
  | nil => simp
  | cons p G ih =>
    rw [List.flatMap_cons, List.length_append, List.map_cons, List.sum_cons]
    have := List.length_filterMap_le (fun q : Gr => if q.1 = k then some q.2 else none) p.2
    omega
theorem set_back {m t : Mem} {g : Nat} {x o : Ob} (h : m[g]? = some o) : ((m.set g x) ++ t).set g o = m ++ t := by
  obtain ⟨hl, q⟩ := List.getElem?_eq_some_iff.mp h
  rw [List.set_append_left _ _ (by simpa using hl), List.set_set, ← q, List.set_getElem_self]
theorem run_standing (d : Nat) {m : Mem} {c a b g e : Nat} {s : Ct} (h : CtA m c a b g e s) (k : Ky) (hz : gsum s.grants < 900000) :
    callN P (d + 1) "Counter.standing_on" [.ref c, kyV k] m = .ok (.ref m.length) (m ++ [.list ((stOn s.grants k).map stV)]) := by
  rw [callN_mth e_Counter_dot_standing_on rfl]
  have hgl : g < m.length := (List.getElem?_eq_some_iff.mp h.gv).1
  have hcg : c ≠ g := fun z => by have := h.o; rw [z, h.gv] at this; cases this
  obtain ⟨mL, hmL⟩ : ∃ mL, mL = m.set g (.fdict (mp pv grs s.grants)) := ⟨_, rfl⟩
  have hlen : mL.length = m.length := by rw [hmL]; simp
  have hset : (m ++ [Ob.list []]).set g (.fdict (mp pv grs s.grants)) = mL ++ [.list []] := by rw [List.set_append_left _ _ hgl, hmL]
  have ho : ∀ t, attrP P (callN P d) "grants" (.ref c) (mL ++ t) = .ok (.ref g) (mL ++ t) := fun t => at_grants _ (get_app (by rw [hmL, List.getElem?_set_ne hcg.symm]; exact h.o))
  have hv : ∀ t, valsR (.ref g) (mL ++ t) = .ok ((mp pv grs s.grants).map (·.2), none) (mL ++ t) := fun t => vals_ok (get_app (by rw [hmL, List.getElem?_set_self hgl]))
  have hvs : (mp pv grs s.grants).map (·.2) = s.grants.map fun p => grs p.2 := by unfold mp; rw [List.map_map]; rfl
  obtain ⟨l', m', el, hi⟩ := for_all (chk := none) (t := .name 3) (b := execB P (callN P d) b_Counter_dot_standing_on_2) (xs := s.grants.map fun p => grs p.2)
    (fun i l m' => i ≤ s.grants.length ∧ ∃ x3 x4 x5 x6, l = [some (.ref c), some (kyV k), some (.ref mL.length), x3, x4, x5, x6] ∧ m' = mL ++ [.list ((stOn (s.grants.take i) k).map stV)])
    (fun _ _ _ _ => still_none _) (fun i x l m' hx hi => by
      obtain ⟨_, y3, y4, y5, y6, el, em⟩ := hi
      subst el em
      rw [List.getElem?_map] at hx
      obtain ⟨q, hq, eq⟩ := Option.map_eq_some_iff.mp hx
      subst eq
      have hil : i < s.grants.length := (List.getElem?_eq_some_iff.mp hq).1
      have l1 := stOn_len (s.grants.take i) k
      have l2 := gsum_take hq
      refine ⟨_, asg_name _ _ _ _, ?_⟩
      obtain ⟨l2, m2, e2, z4, z5, z6, el2, em2⟩ := st_inner (callN P d) mL (.ref c) k q.2 (stOn (s.grants.take i) k) (by omega) (some (grs q.2)) y4 y5 y6
      subst el2 em2
      refine Flow.by (by simp [b_Counter_dot_standing_on_2, grs]; simp [grs] at e2; rw [e2] <;> rfl) ?_
      refine Flow.nx_of ⟨hil, _, _, _, _, rfl, ?_⟩
      rw [take_snoc hq]
      simp [stOn]) (l := [some (.ref c), some (kyV k), some (.ref mL.length), none, none, none, none]) (m := mL ++ [.list []]) ⟨Nat.zero_le _, none, none, none, none, rfl, by simp [stOn]⟩
  obtain ⟨_, y3, y4, y5, y6, el2, em2⟩ := hi
  subst el2 em2
  rw [List.length_map, List.take_length] at el
  have hg := get_app (g := [Ob.list []]) h.gv
  have hat := at_grants (callN P d) (h.app [.list []]).o
  have hb : (mL ++ [Ob.list ((stOn s.grants k).map stV)]).set g (.dict true (mp pv grs s.grants)) = m ++ [.list ((stOn s.grants k).map stV)] := by rw [hmL]; exact set_back h.gv
  rw [hlen] at el
  have ex : execB P (callN P d) f_Counter_dot_standing_on.body (start f_Counter_dot_standing_on.ns [.ref c, kyV k]) m = .ret (.ref m.length) (m ++ [.list ((stOn s.grants k).map stV)]) := by
    simp [f_Counter_dot_standing_on, start, show (0 : Nat) ≤ SZ by decide, hat, lock_ok hg, hset, ho, hv, hvs, el, hb]
  rw [ex]
  exact gc_ref (g := [.list ((stOn s.grants k).map stV)]) (Nat.le_refl _) (get_new _ _) (by rw [ob_under]; exact underL_all fun x hx => by obtain ⟨y, _, e⟩ := List.mem_map.mp hx; rw [← e]; simp)

end L34

namespace L34
open Py
/-! ### a value, a kind -/
def Vok (vals : List (Ky × Val)) : Prop := ∀ p ∈ vals, okk p.2 = true
def valAt (vals : List (Ky × Val)) (k : Ky) : Val := (look2 vals k).getD (firstV k.2.1)
theorem look2_mem {κ α : Type} [DecidableEq κ] {l : List (κ × α)} {k : κ} {v : α} (h : look2 l k = some v) : (k, v) ∈ l := by
  unfold look2 at h
  obtain ⟨p, h1, h2⟩ := Option.map_eq_some_iff.mp h
  have h3 := List.mem_of_find?_eq_some h1
  have h4 : p.1 = k := by have := List.find?_some h1; simpa using this
  obtain ⟨x, y⟩ := p
  simp only at h2 h4
  rw [← h2, ← h4]; exact h3
theorem firstV_okk (n : List Nat) : okk (firstV n) = true := by unfold firstV; split <;> rfl
theorem valAt_okk {vals : List (Ky × Val)} (h : Vok vals) (k : Ky) : okk (valAt vals k) = true := by
  unfold valAt
  cases e : look2 vals k with
  | none => exact firstV_okk _
  | some v => exact h _ (look2_mem e)
abbrev KO (k : Ky) : Prop := KOk k.1 k.2.1 k.2.2
theorem run_value_in (d : Nat) {m : Mem} {a : Nat} {vals : List (Ky × Val)} (h : m[a]? = some (.dict true (mp kyV id vals))) (hv : Vok vals) {k : Ky} (hk : KO k) : callN P (d + 7) "value_in" [.ref a, kyV k] m = .ok (valAt vals k) m := by
  rw [callN_fn e_value_in rfl]
  have hu : (valAt vals k).under m.length = true := okk_under _ (valAt_okk hv k)
  have e1 := din_ok (neg := false) h (ky_put k)
  rw [dlook_mp ky_eqv] at e1
  unfold valAt at hu ⊢
  cases e : look2 vals k with
  | none =>
    rw [e] at e1 hu
    have r := run_first d m hk
    have r' : callN P (d + 6) "first_value" [kyV k] m = .ok (firstV k.2.1) m := r
    have hu' : (firstV k.2.1).under m.length = true := hu
    simp at e1
    simp [f_value_in, start, e1, r', hu']
  | some v =>
    rw [e] at e1 hu
    have e2 := dget_ok h (ky_put k) (v := v) (by rw [dlook_mp ky_eqv, e]; rfl)
    have hu' : v.under m.length = true := hu
    simp at e1
    simp [f_value_in, start, e1, e2, hu']
def sSee : List Nat := [115, 101, 101]
def sOwn : List Nat := [111, 119, 110]
def sAdd : List Nat := [97, 100, 100]
def sTake : List Nat := [116, 97, 107, 101]
def sAmple : List Nat := [97, 109, 112, 108, 101]
def sShort : List Nat := [115, 104, 111, 114, 116]
def kindF (st : List (List Nat × Int)) (v : Int) (mode : List Nat) (many : Int) : Option (List Nat) :=
  if st = [] ∧ mode ≠ sTake then some mode
  else if mode = sSee then (if (st.all fun x => decide (x.1 = sSee)) = true then some sSee else none)
  else if mode = sOwn ∨ (st.all fun x => decide (x.1 = sAdd) || decide (x.1 = sAmple)) = false then none
  else if mode = sAdd then some sAdd
  else if many ≤ v - (st.map (·.2)).sum then some sAmple
  else if st = [] then some sShort else none
def oV (o : Option (List Nat)) : Val := match o with
  | some s => .str s
  | none => .none
theorem comp_st {C : Calls} {m : Mem} {r : Nat} {st : List (List Nat × Int)} (hr : m.list r = some (st.map stV)) (el : E) (f : List Nat × Int → Val) (l : Loc) (he : ∀ s i, evalE P C el (((wipeL l [6, 7]).set 6 (some (.str s))).set 7 (some (.int i))) m = .ok (f (s, i)) m) :
    compLoop (some (r, st.map stV)) (compEl (.tup [.name 6, .name 7]) l (evalE P C el)) (st.map stV) m = .ok (st.map f) m := by
  have hs : still (some (r, st.map stV)) m := by unfold still; exact hr
  rw [comp_pure (fun x => match x with
    | .tup [.str s, .int i] => some (f (s, i))
    | _ => none) hs fun x hx => ?_]
  · rw [List.filterMap_map]
    have : ((fun x => match x with
      | Val.tup [.str s, .int i] => some (f (s, i))
      | _ => none) ∘ stV) = fun x => some (f x) := by funext x; rfl
    rw [this, List.filterMap_eq_map']
  · obtain ⟨y, _, e⟩ := List.mem_map.mp hx
    subst e
    obtain ⟨s, i⟩ := y
    have h := he s i
    simp [compEl, Tg.slots, Tg.slotsL, stV, h]
theorem comp_kd {C : Calls} {m : Mem} {r : Nat} {ks : List (List Nat)} (hr : m.list r = some (ks.map .str)) (el : E) (f : List Nat → Val) (l : Loc) (he : ∀ s, evalE P C el ((wipeL l [6]).set 6 (some (.str s))) m = .ok (f s) m) :
    compLoop (some (r, ks.map .str)) (compEl (.name 6) l (evalE P C el)) (ks.map .str) m = .ok (ks.map f) m := by
  have hs : still (some (r, ks.map .str)) m := by unfold still; exact hr
  rw [comp_pure (fun x => match x with
    | .str s => some (f s)
    | _ => none) hs fun x hx => ?_]
  · rw [List.filterMap_map]
    have : ((fun x => match x with
      | Val.str s => some (f s)
      | _ => none) ∘ Val.str) = fun x => some (f x) := by funext x; rfl
    rw [this, List.filterMap_eq_map']
  · obtain ⟨y, _, e⟩ := List.mem_map.mp hx
    subst e
    have h := he y
    simp [compEl, Tg.slots, h]
theorem bools_map : ∀ bs : List Bool, boolsOf (bs.map .bool) = some bs
  | [] => rfl
  | b :: bs => by rw [List.map_cons, boolsOf, bools_map bs]; rfl
theorem ints_map : ∀ bs : List Int, intsOf (bs.map .int) = some bs
  | [] => rfl
  | b :: bs => by rw [List.map_cons, intsOf, ints_map bs]; rfl
theorem blt_all {m : Mem} {r : Nat} {bs : List Bool} (h : m.list r = some (bs.map .bool)) : bltop .all [.ref r] m = .ok (.bool (bs.all id)) m := by
  unfold bltop; simp only [h, Option.bind_some, bools_map]
theorem blt_sum {m : Mem} {r : Nat} {bs : List Int} (h : m.list r = some (bs.map .int)) : bltop .sum [.ref r] m = .ok (.int bs.sum) m := by
  unfold bltop; simp only [seq_list h, Option.bind_some, ints_map]
theorem execB_app {P : Prog} {C : Calls} : ∀ (a b : List S) (l : Loc) (m : Mem), execB P C (a ++ b) l m = (execB P C a l m).seq (execB P C b)
  | [], b, l, m => by simp
  | s :: a, b, l, m => by
    rw [List.cons_append, ev_execB1, ev_execB1]
    cases execS P C s l m with
    | nx l2 m2 => simp only [fs_nx]; exact execB_app a b l2 m2
    | _ => rfl
theorem run_kind (d : Nat) {m : Mem} {c a b g e : Nat} {s : Ct} (h : CtA m c a b g e s) (hv : Vok s.vals) {k : Ky} (hk : KO k) (hz : gsum s.grants < 900000) (mode : List Nat) (many v : Int) (hval : mode ≠ sSee → mode ≠ sOwn → mode ≠ sAdd → valAt s.vals k = .int v) :
    callN P (d + 8) "Counter.kind_for" [.ref c, kyV k, .str mode, .int many] m = .ok (oV (kindF (stOn s.grants k) v mode many)) m := by
  rw [callN_mth e_Counter_dot_kind_for rfl]
  have hst := run_standing (d + 6) h k hz
  have hle := stOn_len s.grants k
  generalize stOn s.grants k = st at hst hle ⊢
  obtain ⟨n, en⟩ : ∃ n : Int, n = st.length := ⟨_, rfl⟩
  have hn : (n == 0) = decide (st = []) := by
    cases st with
    | nil => simp [en]
    | cons x l =>
      have : ¬ n = 0 := by rw [en]; simp; omega
      simp [this]
  obtain ⟨KV, eKV⟩ : ∃ KV, KV = (st.map (·.1)).map Val.str := ⟨_, rfl⟩
  obtain ⟨SV, eSV⟩ : ∃ SV, SV = st.map stV := ⟨_, rfl⟩
  obtain ⟨BS, eBS⟩ : ∃ BS, BS = st.map fun x => decide (x.1 = sSee) := ⟨_, rfl⟩
  obtain ⟨BA, eBA⟩ : ∃ BA, BA = st.map fun x => decide (x.1 = sAdd) || decide (x.1 = sAmple) := ⟨_, rfl⟩
  obtain ⟨NS, eNS⟩ : ∃ NS, NS = st.map (·.2) := ⟨_, rfl⟩
  obtain ⟨m1, em1⟩ : ∃ m1, m1 = m ++ [Ob.list SV] := ⟨_, rfl⟩
  obtain ⟨m2, em2⟩ : ∃ m2, m2 = m1 ++ [Ob.list KV] := ⟨_, rfl⟩
  have h1 : m1.list m.length = some SV := by rw [em1]; exact mem_new _ _
  have h2 : m2.list m1.length = some KV := by rw [em2]; exact mem_new _ _
  have h12 : m2.list m.length = some SV := by rw [em2]; exact list_app h1
  have hsz : st.length ≤ SZ := by unfold SZ; omega
  have hlen1 : bltop .len [.ref m.length] m1 = .ok (.int n) m1 := len_list h1 (by rw [eSV, List.length_map, en])
  have hlen2 : bltop .len [.ref m.length] m2 = .ok (.int n) m2 := len_list h12 (by rw [eSV, List.length_map, en])
  have ho := h.o
  have ho2 : m2[c]? = some (.inst "Counter" (fs s.house a b g e)) := by rw [em2, em1]; exact get_app (get_app h.o)
  have hc2 := at_vals (callN P (d + 7)) ho2
  have ha2 : m2[a]? = some (.dict true (mp kyV id s.vals)) := by rw [em2, em1]; exact get_app (get_app h.av)
  have mt : P.meth "Counter" "standing_on" = some ("Counter.standing_on" : PySem.Str) := by kernel_rfl
  have nf : (fs s.house a b g e).lookup ("standing_on" : PySem.Str) = none := by rfl
  rw [← eSV, ← em1] at hst
  have ct : ∀ m, cmpop .ne (.str mode) (.str [116, 97, 107, 101]) m = some (!decide (mode = sTake)) := fun m => ne_str _ _ m
  have cs : ∀ m, cmpop .eq (.str mode) (.str [115, 101, 101]) m = some (decide (mode = sSee)) := fun m => eq_str _ _ m
  have co : ∀ m, cmpop .eq (.str mode) (.str [111, 119, 110]) m = some (decide (mode = sOwn)) := fun m => eq_str _ _ m
  have ca : ∀ m, cmpop .eq (.str mode) (.str [97, 100, 100]) m = some (decide (mode = sAdd)) := fun m => eq_str _ _ m
  have g1 : gc m1 (.ok (.int n) m1) = .ok (.int n) m1 := gc_same (by simp)
  have g2 : gc m2 (.ok (.int n) m2) = .ok (.int n) m2 := gc_same (by simp)
  have fin : ∀ (o : Option (List Nat)) (t : Mem), gc m (.ok (oV o) (m1 ++ t)) = .ok (oV o) m := fun o t => by
    rw [em1, List.append_assoc]
    exact gc_app (by cases o <;> simp [oV])
  have K1 : ∀ x5 x6 x7 x8, compLoop (some (m.length, SV)) (compEl (.tup [.name 6, .name 7]) [some (.ref c), some (kyV k), some (.str mode), some (.int many), some (.ref m.length), x5, x6, x7, x8] (evalE P (callN P (d + 7)) (.var 6))) SV m1 = .ok KV m1 := fun x5 x6 x7 x8 => by
    subst eSV eKV
    rw [comp_st h1 (.var 6) (fun x => .str x.1) _ (fun s i => by simp [wipeL]), List.map_map]; rfl
  have K2 : ∀ x5 x6 x7 x8, compLoop (some (m1.length, KV)) (compEl (.name 6) [some (.ref c), some (kyV k), some (.str mode), some (.int many), some (.ref m.length), x5, x6, x7, x8] (evalE P (callN P (d + 7)) (.cmp .eq (.var 6) (.lit (.str [115, 101, 101]))))) KV m2 = .ok (BS.map .bool) m2 := fun x5 x6 x7 x8 => by
    subst eKV eBS
    rw [comp_kd h2 _ (fun s => .bool (decide (s = sSee))) _ (fun s => by simp [wipeL, eq_str]; rfl), List.map_map, List.map_map]; rfl
  have K3 : ∀ x5 x6 x7 x8, compLoop (some (m1.length, KV)) (compEl (.name 6) [some (.ref c), some (kyV k), some (.str mode), some (.int many), some (.ref m.length), x5, x6, x7, x8] (evalE P (callN P (d + 7)) (.cmp .mem (.var 6) (.tup [.lit (.str [97, 100, 100]), .lit (.str [97, 109, 112, 108, 101])])))) KV m2 = .ok (BA.map .bool) m2 := fun x5 x6 x7 x8 => by
    subst eKV eBA
    have mm : ∀ s m, cmpop .mem (.str s) (.tup [.str [97, 100, 100], .str [97, 109, 112, 108, 101]]) m = some (decide (s = sAdd) || decide (s = sAmple)) := fun s m => by
      have := mem_strs s [sAdd, sAmple] m
      show memop m (.str s) (.tup ([sAdd, sAmple].map .str)) = _
      rw [this]; simp
    rw [comp_kd h2 _ (fun s => .bool (decide (s = sAdd) || decide (s = sAmple))) _ (fun s => by simp [wipeL, mm, show (2 : Nat) ≤ SZ by decide]), List.map_map, List.map_map]; rfl
  have K4 : ∀ x5 x6 x7 x8, compLoop (some (m.length, SV)) (compEl (.tup [.name 6, .name 7]) [some (.ref c), some (kyV k), some (.str mode), some (.int many), some (.ref m.length), x5, x6, x7, x8] (evalE P (callN P (d + 7)) (.var 7))) SV m2 = .ok (NS.map .int) m2 := fun x5 x6 x7 x8 => by
    subst eSV eNS
    rw [comp_st h12 (.var 7) (fun x => .int x.2) _ (fun s i => by simp [wipeL]), List.map_map]; rfl
  have lBS : BS.length ≤ SZ := by rw [eBS, List.length_map]; exact hsz
  have lBA : BA.length ≤ SZ := by rw [eBA, List.length_map]; exact hsz
  have lNS : NS.length ≤ SZ := by rw [eNS, List.length_map]; exact hsz
  have ceB : ∀ bs : List Bool, bs.length ≤ SZ → compEnd (.ok (bs.map .bool) m2) = .ok (.ref m2.length) (m2 ++ [.list (bs.map .bool)]) := fun bs hb => compEnd_ok (by rw [List.length_map]; exact hb)
  have ceN : compEnd (.ok (NS.map .int) m2) = .ok (.ref m2.length) (m2 ++ [.list (NS.map .int)]) := compEnd_ok (by rw [List.length_map]; exact lNS)
  have gB : ∀ bs : List Bool, gc m2 (bltop .all [.ref m2.length] (m2 ++ [.list (bs.map .bool)])) = .ok (.bool (bs.all id)) m2 := fun bs => by
    rw [blt_all (mem_new _ _)]
    exact gc_app (by simp)
  have gN : gc m2 (bltop .sum [.ref m2.length] (m2 ++ [.list (NS.map .int)])) = .ok (.int NS.sum) m2 := by
    rw [blt_sum (mem_new _ _)]
    exact gc_app (by simp)
  have hk2 : compEnd (.ok KV m1) = .ok (.ref m1.length) m2 := by rw [compEnd_ok (by rw [eKV, List.length_map, List.length_map]; exact hsz), em2]
  have aS : (BS.all id) = st.all fun x => decide (x.1 = sSee) := by rw [eBS, List.all_map]; rfl
  have aA : (BA.all id) = st.all fun x => decide (x.1 = sAdd) || decide (x.1 = sAmple) := by rw [eBA, List.all_map]; rfl
  have ksum : NS.sum = (st.map (·.2)).sum := by rw [eNS]
  have hb : f_Counter_dot_kind_for.body = f_Counter_dot_kind_for.body.take 3 ++ f_Counter_dot_kind_for.body.drop 3 := by rfl
  have T1 : ¬ (st = [] ∧ mode ≠ sTake) → execB P (callN P (d + 7)) (f_Counter_dot_kind_for.body.take 3) (start f_Counter_dot_kind_for.ns [.ref c, kyV k, .str mode, .int many]) m = .nx [some (.ref c), some (kyV k), some (.str mode), some (.int many), some (.ref m.length), some (.ref m1.length), none, none, none] m2 := fun q => by
    cases r0 : decide (st = []) with
    | false =>
      rw [r0] at hn
      simp [f_Counter_dot_kind_for, start, ho, mt, nf, hst, hlen1, g1, hn, h1, ↓K1, hk2]
    | true =>
      rw [r0] at hn
      have r1 : mode = sTake := Classical.byContradiction fun z => q ⟨of_decide_eq_true r0, z⟩
      have ct' : ∀ m, cmpop .ne (.str mode) (.str [116, 97, 107, 101]) m = some false := fun m => by rw [ct, decide_eq_true r1]; rfl
      simp [f_Counter_dot_kind_for, start, ho, mt, nf, hst, hlen1, g1, hn, ct', h1, ↓K1, hk2]
  obtain ⟨t, ht⟩ : ∃ t, execB P (callN P (d + 7)) f_Counter_dot_kind_for.body (start f_Counter_dot_kind_for.ns [.ref c, kyV k, .str mode, .int many]) m = .ret (oV (kindF st v mode many)) (m1 ++ t) := by
    unfold kindF
    by_cases q0 : st = [] ∧ mode ≠ sTake
    · rw [if_pos q0]
      rw [decide_eq_true q0.1] at hn
      have ct' : ∀ m, cmpop .ne (.str mode) (.str [116, 97, 107, 101]) m = some true := fun m => by rw [ct, decide_eq_false q0.2]; rfl
      exact ⟨[], by simp [f_Counter_dot_kind_for, start, ho, mt, nf, hst, hlen1, g1, hn, ct', oV]⟩
    · rw [if_neg q0, hb, execB_app, T1 q0, fs_nx]
      refine ⟨[Ob.list KV], ?_⟩
      rw [← em2, ← aS, ← aA, ← ksum]
      by_cases q2 : mode = sSee
      · have cs' : ∀ m, cmpop .eq (.str mode) (.str [115, 101, 101]) m = some true := fun m => by rw [cs, decide_eq_true q2]
        rw [if_pos q2]
        have gB' := gB BS
        cases q3 : BS.all id with
        | true =>
          rw [q3] at gB'
          simp [f_Counter_dot_kind_for, cs', h2, ↓K2, ceB _ lBS, gB', oV, sSee]
        | false =>
          rw [q3] at gB'
          simp [f_Counter_dot_kind_for, cs', h2, ↓K2, ceB _ lBS, gB', oV]
      · have cs' : ∀ m, cmpop .eq (.str mode) (.str [115, 101, 101]) m = some false := fun m => by rw [cs, decide_eq_false q2]
        rw [if_neg q2]
        by_cases q3 : mode = sOwn ∨ BA.all id = false
        · rw [if_pos q3]
          cases q4 : decide (mode = sOwn) with
          | true =>
            have co' : ∀ m, cmpop .eq (.str mode) (.str [111, 119, 110]) m = some true := fun m => by rw [co, q4]
            simp [f_Counter_dot_kind_for, cs', co', oV]
          | false =>
            have co' : ∀ m, cmpop .eq (.str mode) (.str [111, 119, 110]) m = some false := fun m => by rw [co, q4]
            have gB' := gB BA
            rw [q3.resolve_left (of_decide_eq_false q4)] at gB'
            simp [f_Counter_dot_kind_for, cs', co', h2, ↓K3, ceB _ lBA, gB', oV]
        · rw [if_neg q3]
          rw [not_or] at q3
          have co' : ∀ m, cmpop .eq (.str mode) (.str [111, 119, 110]) m = some false := fun m => by rw [co, decide_eq_false q3.1]
          have gB' := gB BA
          rw [eq_true_of_ne_false q3.2] at gB'
          by_cases q5 : mode = sAdd
          · have ca' : ∀ m, cmpop .eq (.str mode) (.str [97, 100, 100]) m = some true := fun m => by rw [ca, decide_eq_true q5]
            rw [if_pos q5]
            simp [f_Counter_dot_kind_for, cs', co', ca', h2, ↓K3, ceB _ lBA, gB', oV, sAdd]
          · have ca' : ∀ m, cmpop .eq (.str mode) (.str [97, 100, 100]) m = some false := fun m => by rw [ca, decide_eq_false q5]
            rw [if_neg q5]
            have rv := run_value_in d ha2 hv hk
            rw [hval q2 q3.1 q5] at rv
            by_cases q6 : many ≤ v - NS.sum
            · rw [if_pos q6]
              simp [f_Counter_dot_kind_for, cs', co', ca', h2, ↓K3, ceB _ lBA, gB', hc2, rv, h12, ↓K4, ceN, gN, q6, oV, sAmple]
            · rw [if_neg q6]
              by_cases q7 : st = []
              · rw [if_pos q7]
                rw [decide_eq_true q7] at hn
                simp [f_Counter_dot_kind_for, cs', co', ca', h2, ↓K3, ceB _ lBA, gB', hc2, rv, h12, ↓K4, ceN, gN, q6, hlen2, g2, hn, oV, sShort]
              · rw [if_neg q7]
                rw [decide_eq_false q7] at hn
                simp [f_Counter_dot_kind_for, cs', co', ca', h2, ↓K3, ceB _ lBA, gB', hc2, rv, h12, ↓K4, ceN, gN, q6, hlen2, g2, hn, oV]
  rw [ht]
  exact fin _ _

end L34

namespace L34
open Py
/-! ### a deed's grants -/
def mapO {α β : Type} (g : α → Option β) : List α → Option (List β)
  | [] => some []
  | x :: xs => match g x with
    | none => none
    | some y => (mapO g xs).map (y :: ·)
theorem mapO_snoc {α β : Type} {g : α → Option β} {x : α} {y : β} (hx : g x = some y) : ∀ {l : List α} {ys : List β}, mapO g l = some ys → mapO g (l ++ [x]) = some (ys ++ [y])
  | [], ys, h => by
    unfold mapO at h
    cases h
    simp [mapO, hx]
  | z :: l, ys, h => by
    unfold mapO at h
    rw [List.cons_append]
    unfold mapO
    cases e : g z with
    | none => rw [e] at h; cases h
    | some w =>
      rw [e] at h
      obtain ⟨zs, h1, h2⟩ := Option.map_eq_some_iff.mp h
      subst h2
      simp only
      rw [mapO_snoc hx h1]; rfl
theorem mapO_none {α β : Type} {g : α → Option β} {x : α} (hx : g x = none) : ∀ {l : List α}, x ∈ l → mapO g l = none
  | z :: l, h => by
    unfold mapO
    rcases List.mem_cons.mp h with e | e
    · subst e; rw [hx]
    · cases g z with
      | none => rfl
      | some w => simp only; rw [mapO_none hx e]; rfl
theorem mapO_len {α β : Type} {g : α → Option β} : ∀ {l : List α} {ys : List β}, mapO g l = some ys → ys.length = l.length
  | [], ys, h => by unfold mapO at h; cases h; rfl
  | z :: l, ys, h => by
    unfold mapO at h
    cases e : g z with
    | none => rw [e] at h; cases h
    | some w =>
      rw [e] at h
      obtain ⟨zs, h1, h2⟩ := Option.map_eq_some_iff.mp h
      subst h2
      simp [mapO_len h1]
def vI (vals : List (Ky × Val)) (k : Ky) : Int := match valAt vals k with
  | .int i => i
  | _ => 0
structure RqOk (vals : List (Ky × Val)) (r : Rq) : Prop where
  ko : KO r.1
  int : r.2.1 ≠ sSee → r.2.1 ≠ sOwn → r.2.1 ≠ sAdd → ∃ v, valAt vals r.1 = .int v
def grant1 (vals : List (Ky × Val)) (G : List (Id × List Gr)) (blk : List (Ky × Val)) (r : Rq) : Option Gr :=
  if (look2 blk r.1).isSome = true then none else (kindF (stOn G r.1) (vI vals r.1) r.2.1 r.2.2).map fun kd => (r.1, kd, if kd = sAmple then r.2.2 else 0)
def gtV (o : Option (List Gr)) : Val := match o with
  | some l => grs l
  | none => .none
theorem isn_none (m : Mem) : cmpop .isn .none .none m = some true := rfl
theorem isn_str (x : List Nat) (m : Mem) : cmpop .isn (.str x) .none m = some false := rfl
theorem isn_tup (x : List Val) (m : Mem) : cmpop .isn (.tup x) .none m = some false := rfl
theorem run_grants_for (d : Nat) {m : Mem} {c a b g e bl : Nat} {s : Ct} (h : CtA m c a b g e s) (hv : Vok s.vals) (hz : gsum s.grants < 900000) {blk : List (Ky × Val)} (hb : m[bl]? = some (.dict true (mp kyV id blk))) (reqs : List Rq) (hr : ∀ r ∈ reqs, RqOk s.vals r) (hl : reqs.length < 10000) :
    callN P (d + 9) "Counter.grants_for" [.ref c, grs reqs, .ref bl] m = .ok (gtV (mapO (grant1 s.vals s.grants blk) reqs)) m := by
  rw [callN_mth e_Counter_dot_grants_for rfl]
  have mt : P.meth "Counter" "kind_for" = some ("Counter.kind_for" : PySem.Str) := by kernel_rfl
  have nf : (fs s.house a b g e).lookup ("kind_for" : PySem.Str) = none := by rfl
  have key := for_run (chk := none) (t := .tup [.name 4, .name 5, .name 6]) (b := execB P (callN P (d + 8)) b_Counter_dot_grants_for_1) (xs := reqs.map grV)
    (fun i l m' => i ≤ reqs.length ∧ ∃ acc x4 x5 x6 x7, mapO (grant1 s.vals s.grants blk) (reqs.take i) = some acc ∧ l = [some (.ref c), some (grs reqs), some (.ref bl), some (.ref m.length), x4, x5, x6, x7] ∧ m' = m ++ [.list (acc.map grV)])
    (fun v m' => v = .none ∧ mapO (grant1 s.vals s.grants blk) reqs = none ∧ ∃ t, m' = m ++ t)
    (fun _ _ _ _ => still_none _) (fun i x l m' hx hi => by
      obtain ⟨_, acc, y4, y5, y6, y7, ha, el, em⟩ := hi
      subst el em
      rw [List.getElem?_map] at hx
      obtain ⟨q, hq, eq⟩ := Option.map_eq_some_iff.mp hx
      subst eq
      have hil : i < reqs.length := (List.getElem?_eq_some_iff.mp hq).1
      have hmem : q ∈ reqs := List.mem_of_getElem? hq
      have rq := hr q hmem
      have hal := mapO_len ha
      have hacc : (acc.map grV).length < SZ := by
        rw [List.length_map, hal, List.length_take]; unfold SZ; omega
      have h' := h.app [.list (acc.map grV)]
      have hb' := get_app (g := [Ob.list (acc.map grV)]) hb
      have ho := h'.o
      have e1 := din_ok (neg := false) hb' (ky_put q.1)
      rw [dlook_mp ky_eqv] at e1
      have rk := run_kind d h' hv rq.ko hz q.2.1 q.2.2 (vI s.vals q.1) (fun a1 a2 a3 => by
        obtain ⟨v, ev⟩ := rq.int a1 a2 a3
        unfold vI; rw [ev])
      obtain ⟨qk, qs, qi⟩ := q
      refine ⟨[some (.ref c), some (grs reqs), some (.ref bl), some (.ref m.length), some (kyV qk), some (.str qs), some (.int qi), y7], by simp [grV], ?_⟩
      obtain ⟨A, hA⟩ : ∃ A, A = acc.map grV := ⟨_, rfl⟩
      rw [← hA] at hacc h' hb' ho e1 rk ⊢
      cases e2 : look2 blk qk with
      | some v =>
        simp only [e2, Option.map_some, Option.isSome_some] at e1
        refine Flow.by (r' := .ret .none (m ++ [.list A])) (by simp at e1; simp [b_Counter_dot_grants_for_1, e1, isn_none]) ?_
        exact ⟨rfl, mapO_none (x := (qk, qs, qi)) (by unfold grant1; simp [e2]) hmem, _, rfl⟩
      | none =>
        simp only [e2, Option.map_none, Option.isSome_none] at e1
        have rk' : callN P (d + 8) "Counter.kind_for" [.ref c, kyV qk, .str qs, .int qi] (m ++ [.list A]) = .ok (oV (kindF (stOn s.grants qk) (vI s.vals qk) qs qi)) (m ++ [.list A]) := rk
        cases e3 : kindF (stOn s.grants qk) (vI s.vals qk) qs qi with
        | none =>
          rw [e3] at rk'
          refine Flow.by (r' := .ret .none (m ++ [.list A])) (by simp at e1; simp [b_Counter_dot_grants_for_1, e1, ho, mt, nf, rk', oV, isn_none]) ?_
          exact ⟨rfl, mapO_none (x := (qk, qs, qi)) (by unfold grant1; simp [e2, e3]) hmem, _, rfl⟩
        | some kd =>
          rw [e3] at rk'
          have hg : grant1 s.vals s.grants blk (qk, qs, qi) = some (qk, kd, if kd = sAmple then qi else 0) := by unfold grant1; simp [e2, e3]
          have hs := mapO_snoc hg ha
          rw [← take_snoc hq] at hs
          by_cases e4 : kd = sAmple
          · have e5 : ∀ m, cmpop .eq (.str kd) (.str [97, 109, 112, 108, 101]) m = some true := fun m => by rw [eq_str]; exact congrArg some (decide_eq_true e4)
            rw [if_pos e4] at hs
            refine Flow.by (r' := .nx [some (.ref c), some (grs reqs), some (.ref bl), some (.ref m.length), some (kyV qk), some (.str qs), some (.int qi), some (.str kd)] (m ++ [.list (A ++ [grV (qk, kd, qi)])])) (by simp at e1; simp [b_Counter_dot_grants_for_1, e1, ho, mt, nf, rk', oV, isn_str, e5, recv_list (mem_new _ _), bm_app (mem_new _ _) hacc, show (3 : Nat) ≤ SZ by decide, grV]) ?_
            exact Flow.nx_of ⟨hil, _, _, _, _, _, hs, rfl, by rw [hA]; simp⟩
          · have e5 : ∀ m, cmpop .eq (.str kd) (.str [97, 109, 112, 108, 101]) m = some false := fun m => by rw [eq_str]; exact congrArg some (decide_eq_false e4)
            rw [if_neg e4] at hs
            refine Flow.by (r' := .nx [some (.ref c), some (grs reqs), some (.ref bl), some (.ref m.length), some (kyV qk), some (.str qs), some (.int qi), some (.str kd)] (m ++ [.list (A ++ [grV (qk, kd, 0)])])) (by simp at e1; simp [b_Counter_dot_grants_for_1, e1, ho, mt, nf, rk', oV, isn_str, e5, recv_list (mem_new _ _), bm_app (mem_new _ _) hacc, show (3 : Nat) ≤ SZ by decide, grV]) ?_
            exact Flow.nx_of ⟨hil, _, _, _, _, _, hs, rfl, by rw [hA]; simp⟩) (l := [some (.ref c), some (grs reqs), some (.ref bl), some (.ref m.length), none, none, none, none]) (m := m ++ [.list []]) ⟨Nat.zero_le _, [], none, none, none, none, rfl, rfl, rfl⟩
  rcases key with ⟨l', m', e1, _, acc, y4, y5, y6, y7, ha, el, em⟩ | ⟨v, m', e1, ev, hn, t, em⟩
  · subst el em
    rw [List.length_map, List.take_length] at ha
    have hbt := blt_tuple (seq_list (mem_new m (acc.map grV)))
    have ex : execB P (callN P (d + 8)) f_Counter_dot_grants_for.body (start f_Counter_dot_grants_for.ns [.ref c, grs reqs, .ref bl]) m = .ret (grs acc) (m ++ [.list (acc.map grV)]) := by
      have gg : gc (m ++ [Ob.list (acc.map grV)]) (.ok (.tup (acc.map grV)) (m ++ [.list (acc.map grV)])) = .ok (.tup (acc.map grV)) (m ++ [.list (acc.map grV)]) := gc_same (grs_under acc _)
      simp only [grs] at e1 ⊢
      simp [f_Counter_dot_grants_for, start, show (0 : Nat) ≤ SZ by decide, e1, hbt, gg]
    rw [ex, ha]
    exact gc_app (grs_under acc _)
  · subst ev em
    have ex : execB P (callN P (d + 8)) f_Counter_dot_grants_for.body (start f_Counter_dot_grants_for.ns [.ref c, grs reqs, .ref bl]) m = .ret .none (m ++ t) := by
      simp only [grs] at e1 ⊢
      simp [f_Counter_dot_grants_for, start, show (0 : Nat) ≤ SZ by decide, e1]
    rw [ex, hn]
    exact gc_app (by simp)
def ansF (vals : List (Ky × Val)) (g : Gr) : Val := if g.2.1 = sAdd then .none else if g.2.1 = sAmple then .int g.2.2 else valAt vals g.1
theorem ansF_okk {vals : List (Ky × Val)} (hv : Vok vals) (g : Gr) : okk (ansF vals g) = true := by
  unfold ansF
  split
  · rfl
  · split
    · rfl
    · exact valAt_okk hv _
theorem run_answer (d : Nat) {m : Mem} {c a b g e : Nat} {s : Ct} (h : CtA m c a b g e s) (hv : Vok s.vals) (q : Gr) (hk : KO q.1) :
    callN P (d + 8) "Counter.answer" [.ref c, grV q] m = .ok (ansF s.vals q) m := by
  rw [callN_mth e_Counter_dot_answer rfl]
  have hu : (ansF s.vals q).under m.length = true := okk_under _ (ansF_okk hv q)
  have rv := run_value_in d h.av hv hk
  have hc := at_vals (callN P (d + 7)) h.o
  obtain ⟨qk, qs, qi⟩ := q
  have a1 : ∀ m, cmpop .eq (.str qs) (.str [97, 100, 100]) m = some (decide (qs = sAdd)) := fun m => eq_str _ _ m
  have a2 : ∀ m, cmpop .eq (.str qs) (.str [97, 109, 112, 108, 101]) m = some (decide (qs = sAmple)) := fun m => eq_str _ _ m
  unfold ansF at hu ⊢
  by_cases q1 : qs = sAdd
  · have a1' : ∀ m, cmpop .eq (.str qs) (.str [97, 100, 100]) m = some true := fun m => by rw [a1, decide_eq_true q1]
    rw [if_pos q1]
    simp [f_Counter_dot_answer, start, grV, a1']
  · have a1' : ∀ m, cmpop .eq (.str qs) (.str [97, 100, 100]) m = some false := fun m => by rw [a1, decide_eq_false q1]
    rw [if_neg q1] at hu ⊢
    by_cases q2 : qs = sAmple
    · have a2' : ∀ m, cmpop .eq (.str qs) (.str [97, 109, 112, 108, 101]) m = some true := fun m => by rw [a2, decide_eq_true q2]
      rw [if_pos q2]
      simp [f_Counter_dot_answer, start, grV, a1', a2']
    · have a2' : ∀ m, cmpop .eq (.str qs) (.str [97, 109, 112, 108, 101]) m = some false := fun m => by rw [a2, decide_eq_false q2]
      rw [if_neg q2] at hu ⊢
      have rv' : callN P (d + 7) "value_in" [.ref a, kyV qk] m = .ok (valAt s.vals qk) m := rv
      simp [f_Counter_dot_answer, start, grV, a1', a2', hc, rv']
      exact gc_same hu

end L34

namespace L34
open Py
/-! ### the look -/
def put0 (blk : List (Ky × Val)) (rs : List Rq) : List (Ky × Val) := rs.foldl (fun b r => put2 b r.1 (.bool true)) blk
theorem put0_len (rs : List Rq) : ∀ blk : List (Ky × Val), (put0 blk rs).length ≤ blk.length + rs.length := by
  induction rs with
  | nil => intro blk; exact Nat.le_refl _
  | cons r rs ih =>
    intro blk
    have h1 := ih (put2 blk r.1 (.bool true))
    have h2 := put2_len blk r.1 (.bool true)
    have h3 : put0 blk (r :: rs) = put0 (put2 blk r.1 (.bool true)) rs := rfl
    rw [h3, List.length_cons]
    omega
theorem put0_snoc (blk : List (Ky × Val)) (rs : List Rq) (r : Rq) : put0 blk (rs ++ [r]) = put2 (put0 blk rs) r.1 (.bool true) := by
  unfold put0; rw [List.foldl_append]; rfl
/-- the loop that marks what is blocked -/
theorem mark_loop (C : Calls) (B : Mem) (o1 o2 : Ob) (bl : Nat) (hbl : bl = B.length + 2) (blk : List (Ky × Val)) (rs : List Rq) (hl : blk.length + rs.length < 1000000) (v0 v1 v2 v4 v5 v6 v7 v8 : Option Val) :
    ∃ l' m', forLoop none (.name 7) (execB P C b_Counter_dot_look_1) (rs.map grV) [v0, v1, v2, some (.ref bl), v4, v5, v6, v7, v8] (B ++ [o1, o2, .dict true (mp kyV id blk)]) = .nx l' m' ∧
      ∃ x7, l' = [v0, v1, v2, some (.ref bl), v4, v5, v6, x7, v8] ∧ m' = B ++ [o1, o2, .dict true (mp kyV id (put0 blk rs))] := by
  obtain ⟨l', m', e, _, y7, el, em⟩ := for_all (chk := none) (t := .name 7) (b := execB P C b_Counter_dot_look_1) (xs := rs.map grV)
    (fun i l m' => i ≤ rs.length ∧ ∃ x7, l = [v0, v1, v2, some (.ref bl), v4, v5, v6, x7, v8] ∧ m' = B ++ [o1, o2, .dict true (mp kyV id (put0 blk (rs.take i)))])
    (fun _ _ _ _ => still_none _) (fun i x l m' hx hi => by
      obtain ⟨_, y7, el, em⟩ := hi
      subst el em
      rw [List.getElem?_map] at hx
      obtain ⟨q, hq, eq⟩ := Option.map_eq_some_iff.mp hx
      subst eq
      have hil : i < rs.length := (List.getElem?_eq_some_iff.mp hq).1
      refine ⟨_, asg_name _ _ _ _, ?_⟩
      have hlen : (mp kyV id (put0 blk (rs.take i))).length < SZ := by
        have h1 := put0_len (rs.take i) blk
        have h2 : (rs.take i).length ≤ rs.length := by rw [List.length_take]; exact Nat.min_le_right _ _
        unfold mp
        rw [List.length_map]; unfold SZ; omega
      have hd : (B ++ [o1, o2, .dict true (mp kyV id (put0 blk (rs.take i)))])[bl]? = some (.dict true (mp kyV id (put0 blk (rs.take i)))) := by
        rw [hbl, List.getElem?_append_right (by omega)]
        simp
      have hp := dput_ok (l := [v0, v1, v2, some (.ref bl), v4, v5, v6, some (grV q), v8]) (v := .bool true) hd (ky_put q.1) hlen
      rw [show dput (mp kyV id (put0 blk (rs.take i))) (kyV q.1) (.bool true) = mp kyV id (put2 (put0 blk (rs.take i)) q.1 (.bool true)) from dput_mp (f := id) ky_eqv q.1 (.bool true) _, ← put0_snoc, ← take_snoc hq] at hp
      have hset : (B ++ [o1, o2, .dict true (mp kyV id (put0 blk (rs.take i)))]).set bl (.dict true (mp kyV id (put0 blk (rs.take (i + 1))))) = B ++ [o1, o2, .dict true (mp kyV id (put0 blk (rs.take (i + 1))))] := by
        rw [hbl, List.set_append_right _ _ (by omega)]
        simp
      rw [hset] at hp
      generalize B ++ [o1, o2, .dict true (mp kyV id (put0 blk (rs.take i)))] = M at hp ⊢
      have hix : idxop M (grV q) (.int 0) = some (kyV q.1) := by
        obtain ⟨q1, q2, q3⟩ := q
        show atIx _ 0 = _
        rw [at_nat (by decide) (by simp)]; rfl
      refine Flow.by (r' := .nx [v0, v1, v2, some (.ref bl), v4, v5, v6, some (grV q), v8] (B ++ [o1, o2, .dict true (mp kyV id (put0 blk (rs.take (i + 1))))])) (by simp [b_Counter_dot_look_1, hix, hp]) ?_
      exact Flow.nx_of ⟨hil, _, rfl, rfl⟩) (l := [v0, v1, v2, some (.ref bl), v4, v5, v6, v7, v8]) (m := B ++ [o1, o2, .dict true (mp kyV id blk)]) ⟨Nat.zero_le _, v7, rfl, rfl⟩
  rw [List.length_map, List.take_length] at em
  exact ⟨l', m', e, y7, el, em⟩
/-- the counter's cells behind grants G, entries E -/
def bs (m : Mem) (g e : Nat) (G : List (Id × List Gr)) (E : List (Bool × Id)) : Mem := (m.set g (.dict true (mp pv grs G))).set e (.list (E.map entV))
theorem bs_len (m : Mem) (g e : Nat) (G : List (Id × List Gr)) (E : List (Bool × Id)) : (bs m g e G E).length = m.length := by unfold bs; simp
section
variable {m : Mem} {c a b g e : Nat} {s : Ct}
theorem CtA.ge (h : CtA m c a b g e s) : g ≠ e := fun z => by have := h.gv; rw [z, get_of_list h.ev] at this; cases this
theorem CtA.gl (h : CtA m c a b g e s) : g < m.length := (List.getElem?_eq_some_iff.mp h.gv).1
theorem CtA.el (h : CtA m c a b g e s) : e < m.length := list_lt h.ev
theorem CtA.cg (h : CtA m c a b g e s) : g ≠ c := fun z => by have := h.gv; rw [z, h.o] at this; cases this
theorem CtA.ce (h : CtA m c a b g e s) : e ≠ c := fun z => by have := get_of_list h.ev; rw [z, h.o] at this; cases this
theorem CtA.ca (h : CtA m c a b g e s) : a ≠ c := fun z => by have := h.av; rw [z, h.o] at this; cases this
theorem CtA.ae (h : CtA m c a b g e s) : a ≠ e := fun z => by have := h.av; rw [z, get_of_list h.ev] at this; cases this
theorem CtA.bg (h : CtA m c a b g e s) : b ≠ g := fun z => by have := h.gv; rw [← z, get_of_list h.bv] at this; cases this
theorem CtA.bc (h : CtA m c a b g e s) : b ≠ c := fun z => by have := h.o; rw [← z, get_of_list h.bv] at this; cases this
theorem bs_get (h : CtA m c a b g e s) (G : List (Id × List Gr)) (E : List (Bool × Id)) {j : Nat} (h1 : j ≠ g) (h2 : j ≠ e) : (bs m g e G E)[j]? = m[j]? := by
  unfold bs; rw [List.getElem?_set_ne (fun z => h2 z.symm), List.getElem?_set_ne (fun z => h1 z.symm)]
theorem CtA.bs (h : CtA m c a b g e s) (G : List (Id × List Gr)) (E : List (Bool × Id)) : CtA (bs m g e G E) c a b g e { s with grants := G, ent := E } where
  o := by rw [bs_get h G E h.cg.symm h.ce.symm]; exact h.o
  av := by rw [bs_get h G E h.ag h.ae]; exact h.av
  bv := by
    unfold Mem.list
    rw [bs_get h G E h.bg h.be]
    exact h.bv
  gv := by unfold L34.bs; rw [List.getElem?_set_ne h.ge.symm, List.getElem?_set_self h.gl]
  ev := by unfold L34.bs Mem.list; rw [List.getElem?_set_self (by simp; exact h.el)]
  ag := h.ag
  be := h.be
theorem bs_self (h : CtA m c a b g e s) : L34.bs m g e s.grants s.ent = m := by
  unfold L34.bs
  have h1 : m.set g (.dict true (mp pv grs s.grants)) = m := by
    obtain ⟨hl, q⟩ := List.getElem?_eq_some_iff.mp h.gv
    rw [← q, List.set_getElem_self]
  rw [h1]
  obtain ⟨hl, q⟩ := List.getElem?_eq_some_iff.mp (get_of_list h.ev)
  rw [← q, List.set_getElem_self]
theorem bs_setg (h : CtA m c a b g e s) (G G' : List (Id × List Gr)) (E : List (Bool × Id)) (t : Mem) : (L34.bs m g e G E ++ t).set g (.dict true (mp pv grs G')) = L34.bs m g e G' E ++ t := by
  rw [List.set_append_left _ _ (by rw [bs_len]; exact h.gl)]
  unfold L34.bs
  rw [List.set_comm _ _ h.ge.symm, List.set_set]
theorem bs_sete (h : CtA m c a b g e s) (G : List (Id × List Gr)) (E E' : List (Bool × Id)) (t : Mem) : (L34.bs m g e G E ++ t).set e (.list (E'.map entV)) = L34.bs m g e G E' ++ t := by
  rw [List.set_append_left _ _ (by rw [bs_len]; exact h.el)]
  unfold L34.bs
  rw [List.set_set]
end
structure LS where
  G : List (Id × List Gr)
  E : List (Bool × Id)
  gr : List (Id × List Val)
  w : List (Id × List Rq)
  blk : List (Ky × Val)
def lookS (vals : List (Ky × Val)) (t : LS) (ak : Id × List Rq) : LS := match mapO (grant1 vals t.G t.blk) ak.2 with
  | none => { t with w := t.w ++ [ak], blk := put0 t.blk ak.2 }
  | some gs => { t with G := put2 t.G ak.1 gs, E := t.E ++ [(true, ak.1)], gr := t.gr ++ [(ak.1, gs.map (ansF vals))] }
def lookT (vals : List (Ky × Val)) (G : List (Id × List Gr)) (E : List (Bool × Id)) (asks : List (Id × List Rq)) : LS := asks.foldl (lookS vals) ⟨G, E, [], [], []⟩
def toldV (p : Id × List Val) : Val := .tup [pv p.1, .tup p.2]

end L34

namespace L34
open Py
section
variable {B : Mem} {n : Nat} (hn : n = B.length) (o p q o' : Ob) (x y : List Val)
include hn
theorem a0 : Mem.list (B ++ [.list x, o, p]) n = some x := by subst hn; exact mem_newg _ _ _
theorem a1 : Mem.list (B ++ [o, .list x, p]) (n + 1) = some x := by
  subst hn; unfold Mem.list; rw [List.getElem?_append_right (by omega)]; simp
theorem a2 : (B ++ [o, p, q])[n + 2]? = some q := by subst hn; rw [List.getElem?_append_right (by omega)]; simp
theorem s0 : (B ++ [o, p, q]).set n o' = B ++ [o', p, q] := by subst hn; exact set_newg _ _ _ _
theorem s1 : (B ++ [o, p, q]).set (n + 1) o' = B ++ [o, o', q] := by subst hn; rw [List.set_append_right _ _ (by omega)]; simp
end
theorem mapO_mem {α β : Type} {g : α → Option β} : ∀ {l : List α} {ys : List β} {y : β}, mapO g l = some ys → y ∈ ys → ∃ x ∈ l, g x = some y
  | [], ys, y, h, hy => by unfold mapO at h; cases h; cases hy
  | z :: l, ys, y, h, hy => by
    unfold mapO at h
    cases e : g z with
    | none => rw [e] at h; cases h
    | some w =>
      rw [e] at h
      obtain ⟨zs, h1, h2⟩ := Option.map_eq_some_iff.mp h
      subst h2
      rcases List.mem_cons.mp hy with hy | hy
      · subst hy; exact ⟨z, List.mem_cons_self, e⟩
      · obtain ⟨x, a, b⟩ := mapO_mem h1 hy
        exact ⟨x, List.mem_cons_of_mem _ a, b⟩
theorem grant1_key {vals : List (Ky × Val)} {G : List (Id × List Gr)} {blk : List (Ky × Val)} {r : Rq} {y : Gr} (h : grant1 vals G blk r = some y) : y.1 = r.1 := by
  unfold grant1 at h
  split at h
  · cases h
  · obtain ⟨kd, _, e⟩ := Option.map_eq_some_iff.mp h
    rw [← e]
theorem put2_new {κ α : Type} [DecidableEq κ] {l : List (κ × α)} {k : κ} (v : α) (h : ∀ p ∈ l, p.1 ≠ k) : put2 l k v = l ++ [(k, v)] := by
  unfold put2
  rw [if_neg]
  intro z
  obtain ⟨p, h1, h2⟩ := List.any_eq_true.mp z
  exact h p h1 (of_decide_eq_true h2)
theorem gsum_app (G : List (Id × List Gr)) (i : Id) (gs : List Gr) : gsum (G ++ [(i, gs)]) = gsum G + gs.length := by unfold gsum; simp
def rsum (asks : List (Id × List Rq)) : Nat := (asks.map fun p => p.2.length).sum
theorem rsum_take : ∀ {G : List (Id × List Rq)} {i : Nat} {p : Id × List Rq}, G[i]? = some p → rsum (G.take (i + 1)) = rsum (G.take i) + p.2.length
  | [], i, p, h => by simp at h
  | q :: G, 0, p, h => by
    simp at h
    subst h
    simp [rsum]
  | q :: G, i + 1, p, h => by
    simp at h
    have := rsum_take h
    simp [rsum] at this ⊢
    omega
theorem gr_comp (d : Nat) {M : Mem} {c a b g e : Nat} {s : Ct} (h : CtA M c a b g e s) (hv : Vok s.vals) (gs : List Gr) (hk : ∀ q ∈ gs, KO q.1) (l : Loc) (hl : l[0]? = some (some (.ref c))) (h9 : l.length = 9) :
    compLoop none (compEl (.name 8) l (evalE P (callN P (d + 8)) (.meth (.var 0) "answer" [.var 8]))) (gs.map grV) M = .ok ((gs.map (ansF s.vals))) M := by
  have mt : P.meth "Counter" "answer" = some ("Counter.answer" : PySem.Str) := by kernel_rfl
  have nf : (fs s.house a b g e).lookup ("answer" : PySem.Str) = none := by rfl
  have ho := h.o
  have key : ∀ gs : List Gr, (∀ q ∈ gs, KO q.1) → compLoop none (compEl (.name 8) l (evalE P (callN P (d + 8)) (.meth (.var 0) "answer" [.var 8]))) (gs.map grV) M = .ok ((gs.map (ansF s.vals))) M := by
    intro gs
    induction gs with
    | nil => intro _; rw [List.map_nil, compLoop, if_pos (still_none _)]; rfl
    | cons q gs ih =>
      intro hk
      rw [List.map_cons, compLoop, if_pos (still_none _)]
      have r := run_answer d h hv q (hk q List.mem_cons_self)
      have e0 : ((l.set 8 none).set 8 (some (grV q)))[0]? = some (some (.ref c)) := by rw [List.getElem?_set_ne (by decide), List.getElem?_set_ne (by decide)]; exact hl
      have e8 : (l.set 8 (some (grV q)))[8]? = some (some (grV q)) := by rw [List.getElem?_set_self (by omega)]
      have e : compEl (.name 8) l (evalE P (callN P (d + 8)) (.meth (.var 0) "answer" [.var 8])) (grV q) M = .ok (some (ansF s.vals q)) M := by
        simp only [compEl, Tg.slots, wipeL, asg_name]
        simp [hl, e8, ho, mt, nf, r]
      rw [e]
      simp only [Res.bind]
      rw [ih fun q hq => hk q (List.mem_cons_of_mem _ hq)]
      rfl
  exact key gs hk

def lookS' (vals : List (Ky × Val)) (t : LS) (ak : Id × List Rq) : LS := match mapO (grant1 vals t.G t.blk) ak.2 with
  | none => { t with w := t.w ++ [ak], blk := put0 t.blk ak.2 }
  | some gs => { t with G := t.G ++ [(ak.1, gs)], E := t.E ++ [(true, ak.1)], gr := t.gr ++ [(ak.1, gs.map (ansF vals))] }
def lookL (vals : List (Ky × Val)) (G : List (Id × List Gr)) (E : List (Bool × Id)) (asks : List (Id × List Rq)) : LS := asks.foldl (lookS' vals) ⟨G, E, [], [], []⟩
theorem lookL_snoc (vals : List (Ky × Val)) (G : List (Id × List Gr)) (E : List (Bool × Id)) (asks : List (Id × List Rq)) (ak : Id × List Rq) : lookL vals G E (asks ++ [ak]) = lookS' vals (lookL vals G E asks) ak := by
  unfold lookL; rw [List.foldl_append]; rfl
/-- what bounds a look -/
structure LB (s : Ct) (asks : List (Id × List Rq)) (i : Nat) (t : LS) : Prop where
  gs : gsum t.G ≤ gsum s.grants + rsum (asks.take i)
  bl : t.blk.length ≤ rsum (asks.take i)
  gl : t.G.length ≤ s.grants.length + i
  el : t.E.length ≤ s.ent.length + i
  wl : t.w.length ≤ i
  rl : t.gr.length ≤ i
  ids : ∀ p ∈ t.G, p ∈ s.grants ∨ p.1 ∈ (asks.take i).map (·.1)
  ok : ∀ p ∈ t.gr, ∀ v ∈ p.2, okk v = true
theorem LB.step {s : Ct} {asks : List (Id × List Rq)} {i : Nat} {t : LS} {q : Id × List Rq} (vals : List (Ky × Val)) (hv : Vok vals) (b : LB s asks i t) (hq : asks[i]? = some q) : LB s asks (i + 1) (lookS' vals t q) := by
  have r := rsum_take hq
  have tk := take_snoc hq
  unfold lookS'
  cases e : mapO (grant1 vals t.G t.blk) q.2 with
  | none =>
    have h := put0_len q.2 t.blk
    refine ⟨?_, ?_, ?_, ?_, ?_, ?_, ?_, b.ok⟩
    · have := b.gs; show gsum t.G ≤ _; omega
    · have := b.bl; show (put0 t.blk q.2).length ≤ _; omega
    · have := b.gl; show t.G.length ≤ _; omega
    · have := b.el; show t.E.length ≤ _; omega
    · have := b.wl; show (t.w ++ [q]).length ≤ _; simp; omega
    · have := b.rl; show t.gr.length ≤ _; omega
    · intro p hp
      rcases b.ids p hp with h | h
      · exact .inl h
      · refine .inr ?_; rw [tk, List.map_append]; exact List.mem_append_left _ h
  | some gs =>
    have hl := mapO_len e
    refine ⟨?_, ?_, ?_, ?_, ?_, ?_, ?_, ?_⟩
    · have := b.gs; show gsum (t.G ++ [(q.1, gs)]) ≤ _; rw [gsum_app]; omega
    · have := b.bl; show t.blk.length ≤ _; omega
    · have := b.gl; show (t.G ++ [(q.1, gs)]).length ≤ _; simp; omega
    · have := b.el; show (t.E ++ [(true, q.1)]).length ≤ _; simp; omega
    · have := b.wl; show t.w.length ≤ _; omega
    · have := b.rl; show (t.gr ++ [(q.1, gs.map (ansF vals))]).length ≤ _; simp; omega
    · intro p hp
      rcases List.mem_append.mp hp with hp | hp
      · rcases b.ids p hp with h | h
        · exact .inl h
        · refine .inr ?_; rw [tk, List.map_append]; exact List.mem_append_left _ h
      · rw [List.mem_singleton.mp hp]
        refine .inr ?_; rw [tk, List.map_append]; exact List.mem_append_right _ (by simp)
    · intro p hp v hv'
      rcases List.mem_append.mp hp with hp | hp
      · exact b.ok p hp v hv'
      · rw [List.mem_singleton.mp hp] at hv'
        obtain ⟨g, _, e⟩ := List.mem_map.mp hv'
        rw [← e]; exact ansF_okk hv g
theorem told_under {t : List (Id × List Val)} (h : ∀ p ∈ t, ∀ v ∈ p.2, okk v = true) (n : Nat) : Val.underL n (t.map toldV) = true := underL_all fun x hx => by
  obtain ⟨p, hp, e⟩ := List.mem_map.mp hx
  rw [← e]
  unfold toldV
  have : Val.underL n p.2 = true := underL_all fun v hv => okk_under n (h p hp v hv)
  simp [this]
/-- the asks of a look are well formed -/
structure AOk (s : Ct) : Prop where
  vals : Vok s.vals
  rq : ∀ ak ∈ s.asks, ak.2.length < 10000 ∧ ∀ r ∈ ak.2, RqOk s.vals r
  new : ∀ ak ∈ s.asks, ∀ p ∈ s.grants, p.1 ≠ ak.1
  nd : (s.asks.map (·.1)).Nodup
  sz : gsum s.grants + rsum s.asks < 800000
  sl : s.grants.length + s.ent.length + s.asks.length < 800000
theorem rsum_le : ∀ (asks : List (Id × List Rq)) (i : Nat), rsum (asks.take i) ≤ rsum asks
  | [], i => by simp [rsum]
  | p :: l, 0 => by simp [rsum]
  | p :: l, i + 1 => by
    have := rsum_le l i
    simp [rsum] at this ⊢
    omega
/-- the memory amid a look -/
def lm (m : Mem) (g e : Nat) (t : LS) : Mem := bs m g e t.G t.E ++ [Ob.list (t.gr.map toldV), Ob.list (t.w.map askV), Ob.dict true (mp kyV id t.blk)]
theorem look_step (d : Nat) {m : Mem} {c a b g e : Nat} {s : Ct} (h : CtA m c a b g e s) (A : AOk s) {i : Nat} {q : Id × List Rq} (hq : s.asks[i]? = some q) {t : LS} (bd : LB s s.asks i t) (x4 x5 x6 x7 x8 : Option Val) :
    ∃ l' , execB P (callN P (d + 9)) b_Counter_dot_look_2 [some (.ref c), some (.ref m.length), some (.ref (m.length + 1)), some (.ref (m.length + 2)), some (pv q.1), some (grs q.2), x6, x7, x8] (lm m g e t) = .nx l' (lm m g e (lookS' s.vals t q)) ∧
      ∃ x4 x5 x6 x7 x8, l' = [some (.ref c), some (.ref m.length), some (.ref (m.length + 1)), some (.ref (m.length + 2)), x4, x5, x6, x7, x8] := by
  have hmem : q ∈ s.asks := List.mem_of_getElem? hq
  have hil : i < s.asks.length := (List.getElem?_eq_some_iff.mp hq).1
  obtain ⟨r1, r2⟩ := A.rq q hmem
  have rl := rsum_le s.asks i
  have rl2 := rsum_le s.asks (i + 1)
  have rt := rsum_take hq
  have z1 := A.sz
  have z2 := A.sl
  have b1 := bd.gs
  have b2 := bd.bl
  have b3 := bd.gl
  have b4 := bd.el
  have b5 := bd.wl
  have b6 := bd.rl
  have hn : m.length = (bs m g e t.G t.E).length := (bs_len m g e t.G t.E).symm
  have C : CtA (lm m g e t) c a b g e { s with grants := t.G, ent := t.E } := (h.bs t.G t.E).app _
  have dct : (lm m g e t)[m.length + 2]? = some (.dict true (mp kyV id t.blk)) := a2 hn _ _ _
  have rg := run_grants_for d C A.vals (by show gsum t.G < 900000; omega) dct q.2 r2 r1
  have mt : P.meth "Counter" "grants_for" = some ("Counter.grants_for" : PySem.Str) := by kernel_rfl
  have nf : (fs s.house a b g e).lookup ("grants_for" : PySem.Str) = none := by rfl
  have ho := C.o
  have hb : b_Counter_dot_look_2 = b_Counter_dot_look_2.take 1 ++ b_Counter_dot_look_2.drop 1 := by rfl
  have T1 : execB P (callN P (d + 9)) (b_Counter_dot_look_2.take 1) [some (.ref c), some (.ref m.length), some (.ref (m.length + 1)), some (.ref (m.length + 2)), some (pv q.1), some (grs q.2), x6, x7, x8] (lm m g e t) = .nx [some (.ref c), some (.ref m.length), some (.ref (m.length + 1)), some (.ref (m.length + 2)), some (pv q.1), some (grs q.2), some (gtV (mapO (grant1 s.vals t.G t.blk) q.2)), x7, x8] (lm m g e t) := by
    simp [b_Counter_dot_look_2, ho, mt, nf, rg]
  rw [hb, execB_app, T1, fs_nx]
  unfold lookS'
  cases em : mapO (grant1 s.vals t.G t.blk) q.2 with
  | none =>
    have hw : (t.w.map askV).length < SZ := by rw [List.length_map]; unfold SZ; omega
    have l1 : (lm m g e t).list (m.length + 1) = some (t.w.map askV) := a1 hn _ _ _
    have st1 : (lm m g e t).set (m.length + 1) (.list (t.w.map askV ++ [askV q])) = bs m g e t.G t.E ++ [.list (t.gr.map toldV), .list (t.w.map askV ++ [askV q]), .dict true (mp kyV id t.blk)] := s1 hn _ _ _ _
    have ba := bm_app (v := askV q) l1 hw
    rw [st1] at ba
    have rr := recv_list (f := .append) l1
    obtain ⟨l', m', e1, y7, el, em'⟩ := mark_loop (callN P (d + 9)) (bs m g e t.G t.E) (.list (t.gr.map toldV)) (.list (t.w.map askV ++ [askV q])) (m.length + 2) (by rw [bs_len]) t.blk q.2 (by omega) (some (.ref c)) (some (.ref m.length)) (some (.ref (m.length + 1))) (some (pv q.1)) (some (grs q.2)) (some .none) x7 x8
    subst el em'
    have ek : askV q = .tup [pv q.1, grs q.2] := rfl
    rw [ek] at ba
    have eI : evalI P (callN P (d + 9)) (.seq (.var 5)) [some (.ref c), some (.ref m.length), some (.ref (m.length + 1)), some (.ref (m.length + 2)), some (pv q.1), some (grs q.2), some .none, x7, x8] (bs m g e t.G t.E ++ [.list (t.gr.map toldV), .list (t.w.map askV ++ [.tup [pv q.1, grs q.2]]), .dict true (mp kyV id t.blk)]) = .ok (q.2.map grV, none) (bs m g e t.G t.E ++ [.list (t.gr.map toldV), .list (t.w.map askV ++ [.tup [pv q.1, grs q.2]]), .dict true (mp kyV id t.blk)]) := by
      simp [grs]
    rw [ek] at e1
    refine ⟨[some (.ref c), some (.ref m.length), some (.ref (m.length + 1)), some (.ref (m.length + 2)), some (pv q.1), some (grs q.2), some .none, y7, x8], ?_, _, _, _, _, _, rfl⟩
    have eR : lm m g e { t with w := t.w ++ [q], blk := put0 t.blk q.2 } = bs m g e t.G t.E ++ [.list (t.gr.map toldV), .list (t.w.map askV ++ [.tup [pv q.1, grs q.2]]), .dict true (mp kyV id (put0 t.blk q.2))] := by
      unfold lm; simp [ek]
    rw [eR]
    obtain ⟨M0, eM0⟩ : ∃ M0, M0 = lm m g e t := ⟨_, rfl⟩
    rw [← eM0] at rr ba ⊢
    simp [b_Counter_dot_look_2, gtV, isn_none, rr, ba, show (2 : Nat) ≤ SZ by decide, ↓eI, e1]
  | some gs =>
    have hgl : gs.length = q.2.length := mapO_len em
    have hko : ∀ y ∈ gs, KO y.1 := fun y hy => by
      obtain ⟨r, hr, er⟩ := mapO_mem em hy
      rw [grant1_key er]; exact (r2 r hr).ko
    have hfresh : ∀ p ∈ t.G, p.1 ≠ q.1 := fun p hp => by
      rcases bd.ids p hp with z | z
      · exact A.new q hmem p z
      · intro ee
        rw [ee] at z
        obtain ⟨y, hy, ey⟩ := List.mem_map.mp z
        obtain ⟨j, hj⟩ := List.mem_iff_getElem?.mp hy
        rw [List.getElem?_take] at hj
        split at hj
        · rename_i hji
          have hjl : j < s.asks.length := by omega
          have e1 : (s.asks.map (·.1))[j]? = some q.1 := by rw [List.getElem?_map, hj]; exact congrArg some ey
          have e2 : (s.asks.map (·.1))[i]? = some q.1 := by rw [List.getElem?_map, hq]; rfl
          have := (List.getElem?_inj (by rw [List.length_map]; exact hjl) A.nd).mp (e1.trans e2.symm)
          omega
        · cases hj
    have hgz : (mp pv grs t.G).length < SZ := by unfold mp; rw [List.length_map]; unfold SZ; omega
    have dp := dput_ok (l := [some (.ref c), some (.ref m.length), some (.ref (m.length + 1)), some (.ref (m.length + 2)), some (pv q.1), some (grs q.2), some (grs gs), x7, x8]) (v := grs gs) C.gv (id_put q.1) hgz
    rw [show dput (mp pv grs t.G) (pv q.1) (grs gs) = mp pv grs (put2 t.G q.1 gs) from dput_mp id_eqv _ _ _, put2_new gs hfresh] at dp
    have st1 : (lm m g e t).set g (.dict true (mp pv grs (t.G ++ [(q.1, gs)]))) = bs m g e (t.G ++ [(q.1, gs)]) t.E ++ [Ob.list (t.gr.map toldV), Ob.list (t.w.map askV), Ob.dict true (mp kyV id t.blk)] := bs_setg h _ _ _ _
    rw [st1] at dp
    have C1 : CtA (bs m g e (t.G ++ [(q.1, gs)]) t.E ++ [Ob.list (t.gr.map toldV), Ob.list (t.w.map askV), Ob.dict true (mp kyV id t.blk)]) c a b g e { s with grants := t.G ++ [(q.1, gs)], ent := t.E } := (h.bs _ t.E).app _
    have he1 : (t.E.map entV).length < SZ := by rw [List.length_map]; unfold SZ; omega
    have ba1 := bm_app (v := entV (true, q.1)) C1.ev he1
    have st2 : (bs m g e (t.G ++ [(q.1, gs)]) t.E ++ [Ob.list (t.gr.map toldV), Ob.list (t.w.map askV), Ob.dict true (mp kyV id t.blk)]).set e (.list (t.E.map entV ++ [entV (true, q.1)])) = bs m g e (t.G ++ [(q.1, gs)]) (t.E ++ [(true, q.1)]) ++ [Ob.list (t.gr.map toldV), Ob.list (t.w.map askV), Ob.dict true (mp kyV id t.blk)] := by
      have := bs_sete h (t.G ++ [(q.1, gs)]) t.E (t.E ++ [(true, q.1)]) [Ob.list (t.gr.map toldV), Ob.list (t.w.map askV), Ob.dict true (mp kyV id t.blk)]
      rw [List.map_append] at this; exact this
    rw [st2] at ba1
    have rr1 := recv_list (f := .append) C1.ev
    have C2 : CtA (bs m g e (t.G ++ [(q.1, gs)]) (t.E ++ [(true, q.1)]) ++ [Ob.list (t.gr.map toldV), Ob.list (t.w.map askV), Ob.dict true (mp kyV id t.blk)]) c a b g e { s with grants := t.G ++ [(q.1, gs)], ent := t.E ++ [(true, q.1)] } := (h.bs _ _).app _
    have hn2 : m.length = (bs m g e (t.G ++ [(q.1, gs)]) (t.E ++ [(true, q.1)])).length := (bs_len _ _ _ _ _).symm
    have l0 : Mem.list (bs m g e (t.G ++ [(q.1, gs)]) (t.E ++ [(true, q.1)]) ++ [Ob.list (t.gr.map toldV), Ob.list (t.w.map askV), Ob.dict true (mp kyV id t.blk)]) m.length = some (t.gr.map toldV) := a0 hn2 _ _ _
    have rr0 := recv_list (f := .append) l0
    have hr0 : (t.gr.map toldV).length < SZ := by rw [List.length_map]; unfold SZ; omega
    have ba0 := bm_app (v := toldV (q.1, gs.map (ansF s.vals))) l0 hr0
    have st0 := s0 hn2 (Ob.list (t.gr.map toldV)) (Ob.list (t.w.map askV)) (Ob.dict true (mp kyV id t.blk)) (Ob.list (t.gr.map toldV ++ [toldV (q.1, gs.map (ansF s.vals))]))
    rw [st0] at ba0
    have gc0 := gr_comp (d + 1) C2 A.vals gs hko [some (.ref c), some (.ref m.length), some (.ref (m.length + 1)), some (.ref (m.length + 2)), some (pv q.1), some (grs q.2), some (grs gs), x7, x8] rfl rfl
    have ho1 := at_grants (callN P (d + 9)) C.o
    have ho2 := at_ents (callN P (d + 9)) C1.o
    have eS : entV (true, q.1) = .tup [.str [103, 114, 97, 110, 116, 101, 100], pv q.1] := rfl
    have eT : toldV (q.1, gs.map (ansF s.vals)) = .tup [pv q.1, .tup (gs.map (ansF s.vals))] := rfl
    rw [eS] at ba1
    rw [eT] at ba0
    obtain ⟨M2, eM2⟩ : ∃ M2, M2 = bs m g e (t.G ++ [(q.1, gs)]) (t.E ++ [(true, q.1)]) ++ [Ob.list (t.gr.map toldV), Ob.list (t.w.map askV), Ob.dict true (mp kyV id t.blk)] := ⟨_, rfl⟩
    obtain ⟨M1, eM1⟩ : ∃ M1, M1 = bs m g e (t.G ++ [(q.1, gs)]) t.E ++ [Ob.list (t.gr.map toldV), Ob.list (t.w.map askV), Ob.dict true (mp kyV id t.blk)] := ⟨_, rfl⟩
    rw [← eM2] at ba1 ba0 rr0 gc0 C2 l0
    rw [← eM1] at dp ba1 rr1 ho2
    have eI : evalI P (callN P (d + 9)) (.seq (.var 6)) [some (.ref c), some (.ref m.length), some (.ref (m.length + 1)), some (.ref (m.length + 2)), some (pv q.1), some (grs q.2), some (grs gs), x7, x8] M2 = .ok (gs.map grV, none) M2 := by
      simp [grs]
    have ce : compEnd (.ok (gs.map (ansF s.vals)) M2) = .ok (.ref M2.length) (M2 ++ [.list (gs.map (ansF s.vals))]) := compEnd_ok (by rw [List.length_map, hgl]; unfold SZ; omega)
    have bt := blt_tuple (seq_list (mem_new M2 (gs.map (ansF s.vals))))
    have gg : gc M2 (.ok (.tup (gs.map (ansF s.vals))) (M2 ++ [.list (gs.map (ansF s.vals))])) = .ok (.tup (gs.map (ansF s.vals))) M2 := gc_app (by
      rw [under_tup]
      exact underL_all fun x hx => by obtain ⟨y, _, e⟩ := List.mem_map.mp hx; rw [← e]; exact okk_under _ (ansF_okk A.vals y))
    have egs : ∀ m, cmpop .isn (grs gs) .none m = some false := fun m => isn_tup _ m
    refine ⟨[some (.ref c), some (.ref m.length), some (.ref (m.length + 1)), some (.ref (m.length + 2)), some (pv q.1), some (grs q.2), some (grs gs), x7, x8], ?_, _, _, _, _, _, rfl⟩
    obtain ⟨AV, eAV⟩ : ∃ AV, AV = gs.map (ansF s.vals) := ⟨_, rfl⟩
    rw [← eAV] at ba0 gc0 ce bt gg
    have eR : lm m g e { t with G := t.G ++ [(q.1, gs)], E := t.E ++ [(true, q.1)], gr := t.gr ++ [(q.1, AV)] } = bs m g e (t.G ++ [(q.1, gs)]) (t.E ++ [(true, q.1)]) ++ [.list (t.gr.map toldV ++ [.tup [pv q.1, .tup AV]]), .list (t.w.map askV), .dict true (mp kyV id t.blk)] := by
      unfold lm; simp [toldV]
    show _ = Flow.nx _ (lm m g e { t with G := t.G ++ [(q.1, gs)], E := t.E ++ [(true, q.1)], gr := t.gr ++ [(q.1, gs.map (ansF s.vals))] })
    rw [← eAV, eR]
    obtain ⟨M0, eM0⟩ : ∃ M0, M0 = lm m g e t := ⟨_, rfl⟩
    rw [← eM0] at dp ho1 ⊢
    simp [b_Counter_dot_look_2, gtV, egs, ho1, dp, ho2, rr1, ba1, show (2 : Nat) ≤ SZ by decide, rr0, ↓eI, ↓gc0, ce, bt, gg, ba0]

end L34

namespace L34
open Py
/-! ### look -/
structure Fr (m m' : Mem) (ks : List Nat) : Prop where
  le : m.length ≤ m'.length
  same : ∀ k, k < m.length → k ∉ ks → m'[k]? = m[k]?
theorem Fr.refl (m : Mem) (ks : List Nat) : Fr m m ks := ⟨Nat.le_refl _, fun _ _ _ => rfl⟩
theorem Fr.trans {m m' m'' : Mem} {ks : List Nat} (x : Fr m m' ks) (y : Fr m' m'' ks) : Fr m m'' ks :=
  ⟨Nat.le_trans x.le y.le, fun k h n => (y.same k (Nat.lt_of_lt_of_le h x.le) n).trans (x.same k h n)⟩
theorem Fr.mono {m m' : Mem} {ks js : List Nat} (x : Fr m m' ks) (h : ∀ k ∈ ks, k ∈ js) : Fr m m' js := ⟨x.le, fun k hk n => x.same k hk fun z => n (h k z)⟩
theorem Fr.list {m m' : Mem} {ks : List Nat} {k : Nat} {xs : List Val} (x : Fr m m' ks) (h : m.list k = some xs) (n : k ∉ ks) : m'.list k = some xs := by
  have := x.same k (list_lt h) n
  unfold Mem.list at h ⊢
  rw [this]; exact h
theorem gc_stay {m0 m' : Mem} {v : Val} (i : Nat) (o : Ob) (h : (m'.take m0.length)[i]? = some o) (h1 : m0[i]? ≠ some o) (h2 : o.under m0.length = false) : gc m0 (.ok v m') = .ok v m' := by
  unfold gc
  simp only
  rw [if_neg]
  intro ⟨_, q⟩
  rcases q i o h with z | z
  · exact h1 z
  · rw [h2] at z; cases z
theorem fl_asks : ("asks" : PySem.Str) ∈ P.flds "Counter" := by
  have h : (P.flds "Counter").contains "asks" = true := by kernel_rfl
  simpa using h
theorem LB.start (s : Ct) : LB s s.asks 0 ⟨s.grants, s.ent, [], [], []⟩ :=
  ⟨by simp [rsum], by simp [rsum], by simp, by simp, by simp, by simp, fun p hp => .inl hp, fun p hp => by cases hp⟩
theorem LB.all (s : Ct) (A : AOk s) : ∀ i, i ≤ s.asks.length → LB s s.asks i (lookL s.vals s.grants s.ent (s.asks.take i))
  | 0, _ => LB.start s
  | i + 1, hi => by
    obtain ⟨q, hq⟩ : ∃ q, s.asks[i]? = some q := ⟨s.asks[i]'(by omega), List.getElem?_eq_getElem (by omega)⟩
    rw [take_snoc hq, lookL_snoc]
    exact (LB.all s A i (by omega)).step s.vals A.vals hq
theorem run_look (d : Nat) {m : Mem} {c a b g e : Nat} {s : Ct} (h : CtA m c a b g e s) (A : AOk s) : ∃ m' b', callN P (d + 10) "Counter.look" [.ref c] m = .ok (.tup ((lookL s.vals s.grants s.ent s.asks).gr.map toldV)) m' ∧
    CtA m' c a b' g e { s with asks := (lookL s.vals s.grants s.ent s.asks).w, grants := (lookL s.vals s.grants s.ent s.asks).G, ent := (lookL s.vals s.grants s.ent s.asks).E } ∧ Fr m m' [c, g, e] ∧ m.length ≤ b' := by
  rw [callN_mth e_Counter_dot_look rfl]
  have t0 : m ++ [Ob.list [], Ob.list [], Ob.dict true []] = lm m g e ⟨s.grants, s.ent, [], [], []⟩ := by
    unfold lm; rw [bs_self h]; rfl
  obtain ⟨l', m1, el, hi⟩ := for_all (chk := some (b, s.asks.map askV)) (t := .tup [.name 4, .name 5]) (b := execB P (callN P (d + 9)) b_Counter_dot_look_2) (xs := s.asks.map askV)
    (fun i l m' => i ≤ s.asks.length ∧ ∃ x4 x5 x6 x7 x8, l = [some (.ref c), some (.ref m.length), some (.ref (m.length + 1)), some (.ref (m.length + 2)), x4, x5, x6, x7, x8] ∧ m' = lm m g e (lookL s.vals s.grants s.ent (s.asks.take i)))
    (fun i l m' hi => by
      obtain ⟨_, _, _, _, _, _, _, em⟩ := hi
      subst em
      unfold still
      exact ((h.bs _ _).app _).bv) (fun i x l m' hx hi => by
      obtain ⟨hle, y4, y5, y6, y7, y8, el, em⟩ := hi
      subst el em
      rw [List.getElem?_map] at hx
      obtain ⟨q, hq, eq⟩ := Option.map_eq_some_iff.mp hx
      subst eq
      have hil : i < s.asks.length := (List.getElem?_eq_some_iff.mp hq).1
      refine ⟨[some (.ref c), some (.ref m.length), some (.ref (m.length + 1)), some (.ref (m.length + 2)), some (pv q.1), some (grs q.2), y6, y7, y8], by simp [askV], ?_⟩
      obtain ⟨l2, e2, z4, z5, z6, z7, z8, el2⟩ := look_step d h A hq (LB.all s A i hle) y4 y5 y6 y7 y8
      subst el2
      refine Flow.by e2 ?_
      refine Flow.nx_of ⟨hil, _, _, _, _, _, rfl, ?_⟩
      rw [take_snoc hq, lookL_snoc]) (l := [some (.ref c), some (.ref m.length), some (.ref (m.length + 1)), some (.ref (m.length + 2)), none, none, none, none, none]) (m := lm m g e ⟨s.grants, s.ent, [], [], []⟩) ⟨Nat.zero_le _, none, none, none, none, none, rfl, rfl⟩
  obtain ⟨_, y4, y5, y6, y7, y8, el1, em1⟩ := hi
  subst el1
  rw [List.length_map, List.take_length] at em1
  have bd := LB.all s A s.asks.length (Nat.le_refl _)
  rw [List.take_length] at bd
  generalize lookL s.vals s.grants s.ent s.asks = t at em1 bd ⊢
  have hbl : b < m.length := list_lt h.bv
  have hcl : c < m.length := (List.getElem?_eq_some_iff.mp h.o).1
  have hn : m.length = (bs m g e t.G t.E).length := (bs_len m g e t.G t.E).symm
  have C : CtA m1 c a b g e { s with grants := t.G, ent := t.E } := by rw [em1]; exact (h.bs t.G t.E).app _
  have l0 : m1.list m.length = some (t.gr.map toldV) := by rw [em1]; exact a0 hn _ _ _
  have l1 : m1.list (m.length + 1) = some (t.w.map askV) := by rw [em1]; exact a1 hn _ _ _
  have hm1 : m1.length = m.length + 3 := by rw [em1]; unfold lm; simp [bs_len]
  obtain ⟨m2, em2⟩ : ∃ m2 : Mem, m2 = m1.set c (.inst "Counter" (fs s.house a (m.length + 1) g e)) := ⟨_, rfl⟩
  have hm2 : m2.length = m.length + 3 := by rw [em2]; simp [hm1]
  have g2 : ∀ j, j ≠ c → m2[j]? = m1[j]? := fun j hj => by rw [em2, List.getElem?_set_ne (fun z => hj z.symm)]
  have ml2 : ∀ j, j ≠ c → m2.list j = m1.list j := fun j hj => by unfold Mem.list; rw [g2 j hj]
  have C2 : CtA m2 c a (m.length + 1) g e { s with asks := t.w, grants := t.G, ent := t.E } := by
    refine ⟨by rw [em2, List.getElem?_set_self (by omega)], ?_, ?_, ?_, ?_, h.ag, ?_⟩
    · rw [g2 a h.ca]; exact C.av
    · rw [ml2 _ (by omega)]; exact l1
    · rw [g2 g h.cg]; exact C.gv
    · rw [ml2 e h.ce]; exact C.ev
    · have := h.el; omega
  have l02 : m2.list m.length = some (t.gr.map toldV) := by rw [ml2 _ (by omega)]; exact l0
  have bt := blt_tuple (seq_list l02)
  have gg : gc m2 (.ok (.tup (t.gr.map toldV)) m2) = .ok (.tup (t.gr.map toldV)) m2 := gc_same (by rw [under_tup]; exact told_under bd.ok _)
  have hat := at_asks (callN P (d + 9)) ((h.app [Ob.list [], Ob.list [], Ob.dict true []]).o)
  have hbv := (h.app [Ob.list [], Ob.list [], Ob.dict true []]).bv
  have ho1 := C.o
  have hpa : putAttr "asks" (.ref (m.length + 1)) (fs s.house a b g e) = fs s.house a (m.length + 1) g e := by rfl
  have hfl : (fs s.house a b g e).length < 1000 := by show 5 < 1000; decide
  have ex : execB P (callN P (d + 9)) f_Counter_dot_look.body (start f_Counter_dot_look.ns [.ref c]) m = .ret (.tup (t.gr.map toldV)) m2 := by
    rw [← t0] at el
    simp [f_Counter_dot_look, start, show (0 : Nat) ≤ SZ by decide, hat, hbv, el, ho1, hfl, fl_asks, hpa, ← em2, bt, gg]
  rw [ex]
  refine ⟨m2, m.length + 1, ?_, C2, ⟨by omega, fun k hk hnk => ?_⟩, by omega⟩
  · refine gc_stay c (.inst "Counter" (fs s.house a (m.length + 1) g e)) ?_ ?_ ?_
    · rw [List.getElem?_take, if_pos hcl]; exact C2.o
    · rw [h.o]
      intro z
      have : b = m.length + 1 := by simpa [fs] using z
      omega
    · have : (Val.ref (m.length + 1)).under m.length = false := by unfold Val.under; exact decide_eq_false (by omega)
      unfold fs Ob.under
      simp [this]
  · simp only [List.mem_cons, List.not_mem_nil, or_false, not_or] at hnk
    rw [g2 k hnk.1, em1]
    unfold lm
    rw [List.getElem?_append_left (by rw [bs_len]; exact hk)]
    exact bs_get h _ _ hnk.2.1 hnk.2.2

end L34

namespace L34
open Py
/-! ### ask -/
theorem ent_eqv (x : Bool × Id) (i : Id) : (entV x).eqv (.tup [.str sGranted, pv i]) = (x.1 && decide (x.2 = i)) := by
  obtain ⟨k, j⟩ := x
  unfold entV
  rw [Val.eqv, Val.eqvL, Val.eqvL, Val.eqvL, id_eqv]
  cases k
  · simp [Val.eqv, sGranted, sEnded]
  · simp [Val.eqv]
theorem ent_pl (x : Bool × Id) : (entV x).pl = true := by unfold entV; simp
theorem ent_dp (x : Bool × Id) : (entV x).depth = 2 := by unfold entV; simp
theorem ent_mem (m : Mem) {r : Nat} {E : List (Bool × Id)} (h : m.list r = some (E.map entV)) (i : Id) (hn : (true, i) ∉ E) : cmpop .mem (.tup [.str [103, 114, 97, 110, 116, 101, 100], pv i]) (.ref r) m = some false := by
  show memop m (.tup [.str sGranted, pv i]) (.ref r) = _
  have e1 : memop m (.tup [.str sGranted, pv i]) (.ref r) = if (Val.tup [.str sGranted, pv i]).dat && datL (E.map entV) then some ((E.map entV).any fun z => z.eqv (.tup [.str sGranted, pv i])) else none := by
    unfold memop; simp only [get_of_list h]
  have e2 : datL (E.map entV) = true := datL_of fun x hx => by
    obtain ⟨y, _, e⟩ := List.mem_map.mp hx
    rw [← e, ent_dp]; exact ⟨ent_pl y, by decide⟩
  have e3 : (Val.tup [.str sGranted, pv i]).dat = true := by unfold Val.dat; simp
  rw [e1, e2, e3]
  have e4 : (E.map entV).any (fun z => z.eqv (.tup [.str sGranted, pv i])) = false := by
    rw [List.any_map]
    refine List.any_eq_false.mpr fun x hx => ?_
    intro z
    have z : (entV x).eqv (.tup [.str sGranted, pv i]) = true := z
    rw [ent_eqv, Bool.and_eq_true] at z
    obtain ⟨k, j⟩ := x
    simp only at z
    have z2 := of_decide_eq_true z.2
    rw [z.1, z2] at hx
    exact hn hx
  rw [e4]; rfl
theorem run_was (d : Nat) {m : Mem} {c a b g e : Nat} {s : Ct} (h : CtA m c a b g e s) (i : Id) (h1 : (true, i) ∉ s.ent) (h2 : ∀ ak ∈ s.asks, ak.1 ≠ i) : callN P (d + 1) "Counter.was_asked" [.ref c, pv i] m = .ok (.bool false) m := by
  rw [callN_mth e_Counter_dot_was_asked rfl]
  have ha := at_asks (callN P d) h.o
  have he := at_ents (callN P d) h.o
  have hm := ent_mem m h.ev i h1
  have hb := h.bv
  obtain ⟨l', m', el, y2, y3, el1, em1⟩ := for_all (chk := some (b, s.asks.map askV)) (t := .tup [.name 2, .name 3]) (b := execB P (callN P d) b_Counter_dot_was_asked_1) (xs := s.asks.map askV)
    (fun _ l m' => ∃ x2 x3, l = [some (.ref c), some (pv i), x2, x3] ∧ m' = m)
    (fun _ _ _ hi => by obtain ⟨_, _, _, em⟩ := hi; subst em; unfold still; exact hb) (fun j x l m' hx hi => by
      obtain ⟨y2, y3, el, em⟩ := hi
      subst el em
      rw [List.getElem?_map] at hx
      obtain ⟨q, hq, eq⟩ := Option.map_eq_some_iff.mp hx
      subst eq
      have hne := h2 q (List.mem_of_getElem? hq)
      have hc : ∀ m, cmpop .eq (pv q.1) (pv i) m = some false := fun m => by rw [id_eq, decide_eq_false hne]
      refine ⟨[some (.ref c), some (pv i), some (pv q.1), some (grs q.2)], by simp [askV], ?_⟩
      refine Flow.by (r' := .nx [some (.ref c), some (pv i), some (pv q.1), some (grs q.2)] m') (by simp [b_Counter_dot_was_asked_1, hc]) ?_
      exact Flow.nx_of ⟨_, _, rfl, rfl⟩) (l := [some (.ref c), some (pv i), none, none]) (m := m) ⟨none, none, rfl, rfl⟩
  subst el1 em1
  simp [f_Counter_dot_was_asked, start, he, hm, ha, hb, el, show (2 : Nat) ≤ SZ by decide]
theorem run_ask (d : Nat) {m : Mem} {c a b g e : Nat} {s : Ct} (h : CtA m c a b g e s) (i : Id) (reqs : List Rq) (h1 : (true, i) ∉ s.ent) (h2 : ∀ ak ∈ s.asks, ak.1 ≠ i) (A : AOk { s with asks := s.asks ++ [(i, reqs)] }) (hh : ∀ r ∈ reqs, r.1.1 = s.house) : ∃ m' b', callN P (d + 11) "Counter.ask" [.ref c, pv i, grs reqs] m = .ok (.tup ((lookL s.vals s.grants s.ent (s.asks ++ [(i, reqs)])).gr.map toldV)) m' ∧
    CtA m' c a b' g e { s with asks := (lookL s.vals s.grants s.ent (s.asks ++ [(i, reqs)])).w, grants := (lookL s.vals s.grants s.ent (s.asks ++ [(i, reqs)])).G, ent := (lookL s.vals s.grants s.ent (s.asks ++ [(i, reqs)])).E } ∧ Fr m m' [c, g, e, b] ∧ m.length ≤ b' := by
  rw [callN_mth e_Counter_dot_ask rfl]
  have hrq := (A.rq (i, reqs) (by simp)).2
  have hwas := run_was (d + 9) h i h1 h2
  have mt1 : P.meth "Counter" "was_asked" = some ("Counter.was_asked" : PySem.Str) := by kernel_rfl
  have nf1 : (fs s.house a b g e).lookup ("was_asked" : PySem.Str) = none := by rfl
  have mt2 : P.meth "Counter" "look" = some ("Counter.look" : PySem.Str) := by kernel_rfl
  have nf2 : (fs s.house a b g e).lookup ("look" : PySem.Str) = none := by rfl
  have ho := h.o
  have hat := at_asks (callN P (d + 10)) h.o
  have hho := at_house (callN P (d + 10)) h.o
  obtain ⟨l', m1, el, y3, y4, y5, el1, em1⟩ := for_all (chk := none) (t := .tup [.name 3, .name 4, .name 5]) (b := execB P (callN P (d + 10)) b_Counter_dot_ask_1) (xs := reqs.map grV)
    (fun _ l m' => ∃ x3 x4 x5, l = [some (.ref c), some (pv i), some (grs reqs), x3, x4, x5] ∧ m' = m)
    (fun _ _ _ _ => still_none _) (fun j x l m' hx hi => by
      obtain ⟨y3, y4, y5, el, em⟩ := hi
      subst el em
      rw [List.getElem?_map] at hx
      obtain ⟨q, hq, eq⟩ := Option.map_eq_some_iff.mp hx
      subst eq
      have hmem := List.mem_of_getElem? hq
      have rk := run_keyof (d + 5) m' (hrq q hmem).ko
      obtain ⟨qk, qs, qi⟩ := q
      have rk' : callN P (d + 10) "is_key_of" [.int s.house, kyV qk] m' = .ok (.bool true) m' := by rw [← hh _ hmem]; exact rk
      refine ⟨[some (.ref c), some (pv i), some (grs reqs), some (kyV qk), some (.str qs), some (.int qi)], by simp [grV], ?_⟩
      refine Flow.by (r' := .nx [some (.ref c), some (pv i), some (grs reqs), some (kyV qk), some (.str qs), some (.int qi)] m') (by simp [b_Counter_dot_ask_1, hho, rk']) ?_
      exact Flow.nx_of ⟨_, _, _, rfl, rfl⟩) (l := [some (.ref c), some (pv i), some (grs reqs), none, none, none]) (m := m) ⟨none, none, none, rfl, rfl⟩
  subst el1 em1
  have hbl : b < m1.length := list_lt h.bv
  have hlen : (s.asks.map askV).length < SZ := by
    have := A.sl
    simp at this
    rw [List.length_map]; unfold SZ; omega
  have ba := bm_app (v := askV (i, reqs)) h.bv hlen
  obtain ⟨m2, em2⟩ : ∃ m2 : Mem, m2 = m1.set b (.list (s.asks.map askV ++ [askV (i, reqs)])) := ⟨_, rfl⟩
  rw [← em2] at ba
  have rr := recv_list (f := .append) h.bv
  have hm2 : m2.length = m1.length := by rw [em2]; simp
  have g2 : ∀ j, j ≠ b → m2[j]? = m1[j]? := fun j hj => by rw [em2, List.getElem?_set_ne (fun z => hj z.symm)]
  have hab : a ≠ b := fun z => by have := h.av; rw [z, get_of_list h.bv] at this; cases this
  have C2 : CtA m2 c a b g e { s with asks := s.asks ++ [(i, reqs)] } := by
    refine ⟨by rw [g2 c h.bc.symm]; exact h.o, by rw [g2 a hab]; exact h.av, ?_, by rw [g2 g h.bg.symm]; exact h.gv, ?_, h.ag, h.be⟩
    · rw [em2, list_set_self hbl]; simp
    · rw [em2, list_set h.be]; exact h.ev
  obtain ⟨m3, b', e3, C3, F3, hb'⟩ := run_look d C2 A
  have ho2 := C2.o
  have eI : evalI P (callN P (d + 10)) (.seq (.var 2)) [some (.ref c), some (pv i), some (grs reqs), none, none, none] m1 = .ok (reqs.map grV, none) m1 := by
    simp [grs]
  have bt : ∀ m, bltop .tuple [grs reqs] m = .ok (grs reqs) m := fun m => rfl
  have gg : gc m1 (.ok (grs reqs) m1) = .ok (grs reqs) m1 := gc_same (grs_under _ _)
  have ek : askV (i, reqs) = .tup [pv i, grs reqs] := rfl
  rw [ek] at ba
  have ex : execB P (callN P (d + 10)) f_Counter_dot_ask.body (start f_Counter_dot_ask.ns [.ref c, pv i, grs reqs]) m1 = .ret (.tup ((lookL s.vals s.grants s.ent (s.asks ++ [(i, reqs)])).gr.map toldV)) m3 := by
    simp [f_Counter_dot_ask, start, ho, mt1, nf1, hwas, ↓eI, el, hat, rr, bt, gg, show (2 : Nat) ≤ SZ by decide, ba, ho2, mt2, nf2, e3]
  rw [ex]
  refine ⟨m3, b', ?_, C3, ⟨by have := F3.le; omega, fun k hk hnk => ?_⟩, by omega⟩
  · have hcl : c < m1.length := (List.getElem?_eq_some_iff.mp h.o).1
    refine gc_stay c (.inst "Counter" (fs s.house a b' g e)) ?_ ?_ ?_
    · rw [List.getElem?_take, if_pos hcl]; exact C3.o
    · rw [h.o]
      intro z
      have : b = b' := by simpa [fs] using z
      omega
    · have : (Val.ref b').under m1.length = false := by unfold Val.under; exact decide_eq_false (by omega)
      unfold fs Ob.under
      simp [this]
  · simp only [List.mem_cons, List.not_mem_nil, or_false, not_or] at hnk
    rw [F3.same k (by omega) (by simp [hnk.1, hnk.2.1, hnk.2.2.1]), g2 k hnk.2.2.2]

end L34

namespace L34
open Py
/-! ### end -/
def amt (k : Ky) : Prop := k.2.1 ∉ recN
instance (k : Ky) : Decidable (amt k) := by unfold amt; infer_instance
structure VI (vals : List (Ky × Val)) : Prop where
  ok : Vok vals
  int : ∀ p ∈ vals, amt p.1 → ∃ i, p.2 = .int i
theorem VI.at {vals : List (Ky × Val)} (h : VI vals) {k : Ky} (hk : amt k) : valAt vals k = .int (vI vals k) := by
  have : ∃ i, valAt vals k = .int i := by
    unfold valAt
    cases e : look2 vals k with
    | none => exact ⟨0, by show firstV k.2.1 = _; unfold firstV; rw [if_neg (fun z => hk z.1)]⟩
    | some v => exact h.int _ (look2_mem e) hk
  obtain ⟨i, e⟩ := this
  unfold vI; rw [e]
def iI (v : Val) : Int := match v with
  | .int i => i
  | _ => 0
def carry1 (vals : List (Ky × Val)) (w : Ky × Val) : List (Ky × Val) := put2 vals w.1 (if amt w.1 then .int (vI vals w.1 + iI w.2) else w.2)
def carryF (vals : List (Ky × Val)) (ws : List (Ky × Val)) : List (Ky × Val) := ws.foldl carry1 vals
theorem carryF_snoc (vals ws : List (Ky × Val)) (w : Ky × Val) : carryF vals (ws ++ [w]) = carry1 (carryF vals ws) w := by unfold carryF; rw [List.foldl_append]; rfl
structure WOk (w : Ky × Val) : Prop where
  ko : KO w.1
  ok : okk w.2 = true
  int : amt w.1 → ∃ i, w.2 = .int i
theorem put2_mem {κ α : Type} [DecidableEq κ] {l : List (κ × α)} {k : κ} {v : α} {p : κ × α} (h : p ∈ put2 l k v) : p ∈ l ∨ p = (k, v) := by
  unfold put2 at h
  split at h
  · obtain ⟨q, hq, e⟩ := List.mem_map.mp h
    split at e
    · rename_i e2; right; rw [← e, e2]
    · left; rw [← e]; exact hq
  · rcases List.mem_append.mp h with h | h
    · exact .inl h
    · exact .inr (List.mem_singleton.mp h)
theorem VI.carry1 {vals : List (Ky × Val)} (h : VI vals) {w : Ky × Val} (hw : WOk w) : VI (carry1 vals w) := by
  unfold L34.carry1
  refine ⟨fun p hp => ?_, fun p hp ha => ?_⟩
  · rcases put2_mem hp with q | q
    · exact h.ok p q
    · rw [q]
      show okk (if amt w.1 then _ else _) = true
      split
      · rfl
      · exact hw.ok
  · rcases put2_mem hp with q | q
    · exact h.int p q ha
    · rw [q] at ha ⊢
      have ha' : amt w.1 := ha
      exact ⟨_, if_pos ha'⟩
theorem VI.carry {vals : List (Ky × Val)} (h : VI vals) : ∀ {ws : List (Ky × Val)}, (∀ w ∈ ws, WOk w) → VI (carryF vals ws) := by
  intro ws
  induction ws generalizing vals with
  | nil => intro _; exact h
  | cons w ws ih =>
    intro hw
    exact ih (h.carry1 (hw w List.mem_cons_self)) fun x hx => hw x (List.mem_cons_of_mem _ hx)
theorem carry_len (vals : List (Ky × Val)) : ∀ ws : List (Ky × Val), (carryF vals ws).length ≤ vals.length + ws.length := by
  intro ws
  induction ws generalizing vals with
  | nil => exact Nat.le_refl _
  | cons w ws ih =>
    have h1 := ih (L34.carry1 vals w)
    have h2 := put2_len vals w.1 (if amt w.1 then Val.int (vI vals w.1 + iI w.2) else w.2)
    have h3 : carryF vals (w :: ws) = carryF (L34.carry1 vals w) ws := rfl
    rw [h3, List.length_cons]
    have h4 : (L34.carry1 vals w).length ≤ vals.length + 1 := h2
    omega
def wrV (w : Ky × Val) : Val := .tup [kyV w.1, w.2]
def wrs (ws : List (Ky × Val)) : Val := .tup (ws.map wrV)
theorem dict_under {vals : List (Ky × Val)} (h : Vok vals) (n : Nat) : (Ob.dict true (mp kyV id vals)).under n = true := by
  show ((mp kyV id vals).all fun p => p.1.under n && p.2.under n) = true
  unfold mp
  rw [List.all_map]
  refine List.all_eq_true.mpr fun p hp => ?_
  show ((kyV p.1).under n && (id p.2 : Val).under n) = true
  rw [ky_under, Bool.true_and]; exact okk_under n (h p hp)
theorem run_carry (d : Nat) {m : Mem} {a : Nat} {vals : List (Ky × Val)} (h : m[a]? = some (.dict true (mp kyV id vals))) (hv : VI vals) {ws : List (Ky × Val)} (hw : ∀ w ∈ ws, WOk w) (hl : vals.length + ws.length < 900000) :
    callN P (d + 8) "carry_out" [.ref a, wrs ws] m = .ok .none (m.set a (.dict true (mp kyV id (carryF vals ws)))) := by
  rw [callN_fn e_carry_out rfl]
  have hal : a < m.length := (List.getElem?_eq_some_iff.mp h).1
  have m0 : m.set a (.dict true (mp kyV id vals)) = m := by
    obtain ⟨hl, q⟩ := List.getElem?_eq_some_iff.mp h
    rw [← q, List.set_getElem_self]
  obtain ⟨l', m1, el, _, y2, y3, el1, em1⟩ := for_all (chk := none) (t := .tup [.name 2, .name 3]) (b := execB P (callN P (d + 7)) b_carry_out_1) (xs := ws.map wrV)
    (fun i l m' => i ≤ ws.length ∧ ∃ x2 x3, l = [some (.ref a), some (wrs ws), x2, x3] ∧ m' = m.set a (.dict true (mp kyV id (carryF vals (ws.take i)))))
    (fun _ _ _ _ => still_none _) (fun i x l m' hx hi => by
      obtain ⟨_, y2, y3, el, em⟩ := hi
      subst el em
      rw [List.getElem?_map] at hx
      obtain ⟨w, hq, eq⟩ := Option.map_eq_some_iff.mp hx
      subst eq
      have hmem := List.mem_of_getElem? hq
      have hil : i < ws.length := (List.getElem?_eq_some_iff.mp hq).1
      have W := hw w hmem
      have hv' : VI (carryF vals (ws.take i)) := hv.carry fun x hx => hw x (List.mem_of_mem_take hx)
      have hle := carry_len vals (ws.take i)
      have htl : (ws.take i).length ≤ ws.length := by rw [List.length_take]; exact Nat.min_le_right _ _
      rw [take_snoc hq, carryF_snoc]
      generalize carryF vals (ws.take i) = vs at hv' hle ⊢
      obtain ⟨M, eM⟩ : ∃ M : Mem, M = m.set a (.dict true (mp kyV id vs)) := ⟨_, rfl⟩
      have hd : M[a]? = some (.dict true (mp kyV id vs)) := by rw [eM, List.getElem?_set_self hal]
      have hz : (mp kyV id vs).length < SZ := by unfold mp; rw [List.length_map]; unfold SZ; omega
      have ra := run_amount (d + 2) M W.ko
      have ra' : callN P (d + 7) "is_amount" [kyV w.1] M = .ok (.bool (!decide (w.1.2.1 ∈ recN))) M := ra
      refine ⟨[some (.ref a), some (wrs ws), some (kyV w.1), some w.2], by simp [wrV], ?_⟩
      rw [← eM]
      have hset : ∀ v, M.set a (.dict true (mp kyV id (put2 vs w.1 v))) = m.set a (.dict true (mp kyV id (put2 vs w.1 v))) := fun v => by rw [eM, List.set_set]
      by_cases q1 : amt w.1
      · obtain ⟨j, ej⟩ := W.int q1
        have rv := run_value_in d hd hv'.ok W.ko
        rw [hv'.at q1] at rv
        rw [decide_eq_false q1] at ra'
        have dp := dput_ok (l := [some (.ref a), some (wrs ws), some (kyV w.1), some (.int j)]) (v := .int (vI vs w.1 + j)) hd (ky_put w.1) hz
        rw [show dput (mp kyV id vs) (kyV w.1) (.int (vI vs w.1 + j)) = mp kyV id (put2 vs w.1 (.int (vI vs w.1 + j))) from dput_mp (f := id) ky_eqv _ _ _, hset] at dp
        refine Flow.by (r' := .nx [some (.ref a), some (wrs ws), some (kyV w.1), some w.2] (m.set a (.dict true (mp kyV id (put2 vs w.1 (.int (vI vs w.1 + j))))))) (by simp [b_carry_out_1, ra', rv, ej, dp]) ?_
        refine Flow.nx_of ⟨hil, _, _, rfl, ?_⟩
        unfold L34.carry1
        rw [if_pos q1, ej]; rfl
      · have q1' : w.1.2.1 ∈ recN := Classical.byContradiction q1
        rw [decide_eq_true q1'] at ra'
        have dp := dput_ok (l := [some (.ref a), some (wrs ws), some (kyV w.1), some w.2]) (v := w.2) hd (ky_put w.1) hz
        rw [show dput (mp kyV id vs) (kyV w.1) w.2 = mp kyV id (put2 vs w.1 w.2) from dput_mp (f := id) ky_eqv _ _ _, hset] at dp
        refine Flow.by (r' := .nx [some (.ref a), some (wrs ws), some (kyV w.1), some w.2] (m.set a (.dict true (mp kyV id (put2 vs w.1 w.2))))) (by simp [b_carry_out_1, ra', dp]) ?_
        refine Flow.nx_of ⟨hil, _, _, rfl, ?_⟩
        unfold L34.carry1
        rw [if_neg q1]) (l := [some (.ref a), some (wrs ws), none, none]) (m := m) ⟨Nat.zero_le _, none, none, rfl, m0.symm⟩
  subst el1 em1
  rw [List.length_map, List.take_length] at el
  have eI : evalI P (callN P (d + 7)) (.seq (.var 1)) [some (.ref a), some (wrs ws), none, none] m = .ok (ws.map wrV, none) m := by
    simp [wrs]
  have ex : execB P (callN P (d + 7)) f_carry_out.body (start f_carry_out.ns [.ref a, wrs ws]) m = .nx [some (.ref a), some (wrs ws), y2, y3] (m.set a (.dict true (mp kyV id (carryF vals ws)))) := by
    simp [f_carry_out, start, ↓eI, el]
  rw [ex]
  exact gc_set0 hal (dict_under (hv.carry hw).ok _) (by simp)
structure IdOk (i : Id) : Prop where
  c : 0 ≤ i.1 ∧ i.1 ≤ 9
  n : 1 ≤ i.2 ∧ i.2 ≤ 999
theorem run_isid (d : Nat) (m : Mem) {i : Id} (h : IdOk i) : callN P (d + 4) "is_id" [pv i] m = .ok (.bool true) m := by
  rw [callN_fn e_is_id rfl]
  have f : Fit [.inl i.1, .inl i.2] [sCustomer, sNumber] := .cons (.customer _ h.c) (.cons (.number _ h.n) .nil)
  have r := run_fit d m f
  have r' : callN P (d + 3) "fit" [pv i, .tup [.str sCustomer, .str sNumber]] m = .ok (.bool true) m := r
  have ty : tyOf m (pv i) = some .tuple := rfl
  simp [f_is_id, start, ty, isiK, r', show (2 : Nat) ≤ SZ by decide]

theorem del2_sub {κ α : Type} [DecidableEq κ] {l : List (κ × α)} {k : κ} {p : κ × α} (h : p ∈ del2 l k) : p ∈ l := (List.mem_filter.mp h).1
def noSee (gs : List Gr) : List Ky := gs.filterMap fun q => if q.2.1 = sSee then none else some q.1
theorem noSee_len (gs : List Gr) : (noSee gs).length ≤ gs.length := List.length_filterMap_le _ _
theorem ky_nmem (m : Mem) {r : Nat} {ks : List Ky} (h : m.list r = some (ks.map kyV)) {k : Ky} (hk : k ∈ ks) : cmpop .nmem (kyV k) (.ref r) m = some false := by
  show (memop m (kyV k) (.ref r)).map not = _
  have e1 : memop m (kyV k) (.ref r) = if (kyV k).dat && datL (ks.map kyV) then some ((ks.map kyV).any fun z => z.eqv (kyV k)) else none := by
    unfold kyV tkV memop
    simp only [get_of_list (show m.list r = some (ks.map fun k => .tup ((kyT k).map lv)) from h)]
  have e2 : datL (ks.map kyV) = true := datL_of fun x hx => by
    obtain ⟨y, _, e⟩ := List.mem_map.mp hx
    rw [← e, ky_dp]; exact ⟨ky_pl y, by decide⟩
  have e3 : (kyV k).dat = true := tk_dat _
  rw [e1, e2, e3]
  have e4 : (ks.map kyV).any (fun z => z.eqv (kyV k)) = true := by
    rw [List.any_map]
    refine List.any_eq_true.mpr ⟨k, hk, ?_⟩
    show (kyV k).eqv (kyV k) = true
    rw [ky_eqv]; simp
  rw [e4]; rfl
theorem run_end (d : Nat) {m : Mem} {c a b g e : Nat} {s : Ct} (h : CtA m c a b g e s) (i : Id) (hi : IdOk i) {gs : List Gr} (hg : look2 s.grants i = some gs) (hgl : gs.length < 10000) (ws : List (Ky × Val)) (hv : VI s.vals) (hw : ∀ w ∈ ws, WOk w ∧ w.1.1 = s.house ∧ w.1 ∈ noSee gs) (hvl : s.vals.length + ws.length < 900000)
    (A : AOk { s with vals := carryF s.vals ws, grants := del2 s.grants i, ent := s.ent ++ [(false, i)] }) : ∃ m' b', callN P (d + 11) "Counter.end" [.ref c, pv i, wrs ws] m = .ok (.tup ((lookL (carryF s.vals ws) (del2 s.grants i) (s.ent ++ [(false, i)]) s.asks).gr.map toldV)) m' ∧
    CtA m' c a b' g e { s with vals := carryF s.vals ws, asks := (lookL (carryF s.vals ws) (del2 s.grants i) (s.ent ++ [(false, i)]) s.asks).w, grants := (lookL (carryF s.vals ws) (del2 s.grants i) (s.ent ++ [(false, i)]) s.asks).G, ent := (lookL (carryF s.vals ws) (del2 s.grants i) (s.ent ++ [(false, i)]) s.asks).E } ∧ Fr m m' [c, g, e, a] ∧ m.length ≤ b' := by
  rw [callN_mth e_Counter_dot_end rfl]
  have ho := h.o
  have hgr := at_grants (callN P (d + 10)) h.o
  have ris := run_isid (d + 6) m hi
  have rdin := din_ok (neg := true) h.gv (id_put i)
  rw [dlook_mp id_eqv, hg] at rdin
  have rget := dget_ok h.gv (id_put i) (v := grs gs) (by rw [dlook_mp id_eqv, hg]; rfl)
  obtain ⟨KV, eKV⟩ : ∃ KV, KV = (noSee gs).map kyV := ⟨_, rfl⟩
  have cmp1 : ∀ x3 x4 x5 x6 x7, compLoop none (compElIf (.tup [.name 4, .name 5, .name 6]) [some (.ref c), some (pv i), some (wrs ws), x3, x4, x5, x6, x7] (evalE P (callN P (d + 10)) (.cmp .ne (.var 5) (.lit (.str [115, 101, 101])))) (evalE P (callN P (d + 10)) (.var 4))) (gs.map grV) m = .ok KV m := fun x3 x4 x5 x6 x7 => by
    rw [comp_pure (fun x => match x with
      | .tup [k, .str s, _] => if s = sSee then none else some k
      | _ => none) (still_none _) fun x hx => ?_]
    · rw [List.filterMap_map, eKV]
      unfold noSee
      rw [List.map_filterMap]
      congr 2
      funext q
      obtain ⟨q1, q2, q3⟩ := q
      show (if q2 = sSee then none else some (kyV q1)) = Option.map kyV (if q2 = sSee then none else some q1)
      split <;> rfl
    · obtain ⟨q, _, eq⟩ := List.mem_map.mp hx
      subst eq
      obtain ⟨q1, q2, q3⟩ := q
      have n1 : ∀ m, cmpop .ne (.str q2) (.str [115, 101, 101]) m = some (!decide (q2 = sSee)) := fun m => ne_str _ _ m
      by_cases z : q2 = sSee
      · have n2 : ∀ m, cmpop .ne (.str q2) (.str [115, 101, 101]) m = some false := fun m => by rw [n1, decide_eq_true z]; rfl
        show _ = Res.ok (if q2 = sSee then none else some (kyV q1)) m
        rw [if_pos z]
        simp [compElIf, Tg.slots, Tg.slotsL, wipeL, grV, n2]
      · have n2 : ∀ m, cmpop .ne (.str q2) (.str [115, 101, 101]) m = some true := fun m => by rw [n1, decide_eq_false z]; rfl
        show _ = Res.ok (if q2 = sSee then none else some (kyV q1)) m
        rw [if_neg z]
        simp [compElIf, Tg.slots, Tg.slotsL, wipeL, grV, n2]
  have nl := noSee_len gs
  have ce : compEnd (.ok KV m) = .ok (.ref m.length) (m ++ [.list KV]) := compEnd_ok (by rw [eKV, List.length_map]; unfold SZ; omega)
  obtain ⟨m1, em1⟩ : ∃ m1 : Mem, m1 = m ++ [.list KV] := ⟨_, rfl⟩
  rw [← em1] at ce
  have C1 : CtA m1 c a b g e s := by rw [em1]; exact h.app _
  have l1 : m1.list m.length = some ((noSee gs).map kyV) := by rw [em1, ← eKV]; exact mem_new _ _
  have hho := at_house (callN P (d + 10)) C1.o
  obtain ⟨l', m1', el, y4, y5, y6, y7, el1, em1'⟩ := for_all (chk := none) (t := .tup [.name 4, .name 7]) (b := execB P (callN P (d + 10)) b_Counter_dot_end_1) (xs := ws.map wrV)
    (fun _ l m' => ∃ x4 x5 x6 x7, l = [some (.ref c), some (pv i), some (wrs ws), some (.ref m.length), x4, x5, x6, x7] ∧ m' = m1)
    (fun _ _ _ _ => still_none _) (fun j x l m' hx hi => by
      obtain ⟨y4, y5, y6, y7, el, em⟩ := hi
      subst el em
      rw [List.getElem?_map] at hx
      obtain ⟨w, hq, eq⟩ := Option.map_eq_some_iff.mp hx
      subst eq
      obtain ⟨w1, w2, w3⟩ := hw w (List.mem_of_getElem? hq)
      have rk := run_keyof (d + 5) m' w1.ko
      have rk' : callN P (d + 10) "is_key_of" [.int s.house, kyV w.1] m' = .ok (.bool true) m' := by rw [← w2]; exact rk
      have hnm := ky_nmem m' l1 w3
      refine ⟨[some (.ref c), some (pv i), some (wrs ws), some (.ref m.length), some (kyV w.1), y5, y6, some w.2], by simp [wrV], ?_⟩
      refine Flow.by (r' := .nx [some (.ref c), some (pv i), some (wrs ws), some (.ref m.length), some (kyV w.1), y5, y6, some w.2] m') (by simp [b_Counter_dot_end_1, hho, rk', hnm]) ?_
      exact Flow.nx_of ⟨_, _, _, _, rfl, rfl⟩) (l := [some (.ref c), some (pv i), some (wrs ws), some (.ref m.length), none, none, none, none]) (m := m1) ⟨none, none, none, none, rfl, rfl⟩
  subst el1
  rw [em1'] at el
  have hva := at_vals (callN P (d + 10)) C1.o
  have rc := run_carry (d + 2) C1.av hv (ws := ws) (fun w hx => (hw w hx).1) hvl
  obtain ⟨m2, em2⟩ : ∃ m2 : Mem, m2 = m1.set a (.dict true (mp kyV id (carryF s.vals ws))) := ⟨_, rfl⟩
  rw [← em2] at rc
  have hm1 : m1.length = m.length + 1 := by rw [em1]; simp
  have hal : a < m1.length := (List.getElem?_eq_some_iff.mp C1.av).1
  have g2 : ∀ j, j ≠ a → m2[j]? = m1[j]? := fun j hj => by rw [em2, List.getElem?_set_ne (fun z => hj z.symm)]
  have ml2 : ∀ j, j ≠ a → m2.list j = m1.list j := fun j hj => by unfold Mem.list; rw [g2 j hj]
  have hab : b ≠ a := fun z => by have := h.av; rw [← z, get_of_list h.bv] at this; cases this
  have C2 : CtA m2 c a b g e { s with vals := carryF s.vals ws } :=
    ⟨by rw [g2 c h.ca.symm]; exact C1.o, by rw [em2, List.getElem?_set_self hal], by rw [ml2 b hab]; exact C1.bv, by rw [g2 g h.ag.symm]; exact C1.gv, by rw [ml2 e h.ae.symm]; exact C1.ev, h.ag, h.be⟩
  have hgr2 := at_grants (callN P (d + 10)) C2.o
  have dd := ddel_ok (l := [some (.ref c), some (pv i), some (wrs ws), some (.ref m.length), y4, y5, y6, y7]) C2.gv (id_put i) (by rw [dlook_mp id_eqv]; show (Option.map grs (look2 s.grants i)).isSome = true; rw [hg]; rfl)
  rw [show ddel (mp pv grs s.grants) (pv i) = mp pv grs (del2 s.grants i) from ddel_mp id_eqv _ _] at dd
  obtain ⟨m3, em3⟩ : ∃ m3 : Mem, m3 = m2.set g (.dict true (mp pv grs (del2 s.grants i))) := ⟨_, rfl⟩
  rw [← em3] at dd
  have e3 : m3 = bs m2 g e (del2 s.grants i) s.ent := by
    rw [em3]
    have h1 := bs_self C2
    have h2 := bs_setg C2 s.grants (del2 s.grants i) s.ent []
    rw [List.append_nil, List.append_nil] at h2
    rw [← h2, h1]
  have C3 : CtA m3 c a b g e { s with vals := carryF s.vals ws, grants := del2 s.grants i } := by rw [e3]; exact C2.bs _ _
  have hen := at_ents (callN P (d + 10)) C3.o
  have hel : (s.ent.map entV).length < SZ := by
    have := A.sl
    simp at this
    rw [List.length_map]; unfold SZ; omega
  have ba := bm_app (v := entV (false, i)) C3.ev hel
  have rr := recv_list (f := .append) C3.ev
  obtain ⟨m4, em4⟩ : ∃ m4 : Mem, m4 = m3.set e (.list (s.ent.map entV ++ [entV (false, i)])) := ⟨_, rfl⟩
  rw [← em4] at ba
  have e4 : m4 = bs m2 g e (del2 s.grants i) (s.ent ++ [(false, i)]) := by
    have h2 := bs_sete C2 (del2 s.grants i) s.ent (s.ent ++ [(false, i)]) []
    rw [List.append_nil, List.append_nil, List.map_append] at h2
    rw [em4, e3]; exact h2
  have C4 : CtA m4 c a b g e { s with vals := carryF s.vals ws, grants := del2 s.grants i, ent := s.ent ++ [(false, i)] } := by rw [e4]; exact C2.bs _ _
  obtain ⟨m5, b', e5, C5, F5, hb'⟩ := run_look d C4 A
  have ho4 := C4.o
  have mt2 : P.meth "Counter" "look" = some ("Counter.look" : PySem.Str) := by kernel_rfl
  have nf2 : (fs s.house a b g e).lookup ("look" : PySem.Str) = none := by rfl
  have hm4 : m4.length = m.length + 1 := by rw [e4, bs_len, em2, List.length_set, hm1]
  have eI1 : ∀ x3 x4 x5 x6 x7, evalI P (callN P (d + 10)) (.seq (.dget (.attr (.var 0) "grants") (.var 1))) [some (.ref c), some (pv i), some (wrs ws), x3, x4, x5, x6, x7] m = .ok (gs.map grV, none) m := fun x3 x4 x5 x6 x7 => by
    simp [hgr, rget]
    simp [grs]
  have eI2 : ∀ x3 x4 x5 x6 x7, evalI P (callN P (d + 10)) (.seq (.var 2)) [some (.ref c), some (pv i), some (wrs ws), x3, x4, x5, x6, x7] m1 = .ok (ws.map wrV, none) m1 := fun x3 x4 x5 x6 x7 => by
    simp [wrs]
  have ek : entV (false, i) = .tup [.str [101, 110, 100, 101, 100], pv i] := rfl
  rw [ek] at ba
  simp only [Option.map_some, Option.isSome_some] at rdin
  have rc' : callN P (d + 10) "carry_out" [.ref a, wrs ws] m1 = .ok .none m2 := rc
  have ris' : callN P (d + 10) "is_id" [pv i] m = .ok (.bool true) m := ris
  have ex : execB P (callN P (d + 10)) f_Counter_dot_end.body (start f_Counter_dot_end.ns [.ref c, pv i, wrs ws]) m = .ret (.tup ((lookL (carryF s.vals ws) (del2 s.grants i) (s.ent ++ [(false, i)]) s.asks).gr.map toldV)) m5 := by
    simp at rdin
    simp [f_Counter_dot_end, start, ris', hgr, rdin, ↓eI1, ↓cmp1, ce, ↓eI2, el, hva, rc', hgr2, dd, hen, rr, show (2 : Nat) ≤ SZ by decide, ba, ho4, mt2, nf2, e5]
  rw [ex]
  refine ⟨m5, b', ?_, C5, ⟨by have := F5.le; omega, fun k hk hnk => ?_⟩, by omega⟩
  · have hcl : c < m.length := (List.getElem?_eq_some_iff.mp h.o).1
    have hbl : b < m.length := list_lt h.bv
    refine gc_stay c (.inst "Counter" (fs s.house a b' g e)) ?_ ?_ ?_
    · rw [List.getElem?_take, if_pos hcl]; exact C5.o
    · rw [h.o]
      intro z
      have : b = b' := by simpa [fs] using z
      omega
    · have : (Val.ref b').under m.length = false := by unfold Val.under; exact decide_eq_false (by omega)
      unfold fs Ob.under
      simp [this]
  · simp only [List.mem_cons, List.not_mem_nil, or_false, not_or] at hnk
    rw [F5.same k (by omega) (by simp [hnk.1, hnk.2.1, hnk.2.2.1]), e4, bs_get C2 _ _ hnk.2.1 hnk.2.2.1, g2 k hnk.2.2.2, em1]
    rw [List.getElem?_append_left hk]

end L34

namespace L34
open Py
/-! ### value, waiting, granted, a new counter -/
theorem run_value (d : Nat) {m : Mem} {c a b g e : Nat} {s : Ct} (h : CtA m c a b g e s) (hv : Vok s.vals) {k : Ky} (hk : KO k) (hh : k.1 = s.house) : callN P (d + 8) "Counter.value" [.ref c, kyV k] m = .ok (valAt s.vals k) m := by
  rw [callN_mth e_Counter_dot_value rfl]
  have rk := run_keyof (d + 2) m hk
  have rk' : callN P (d + 7) "is_key_of" [.int s.house, kyV k] m = .ok (.bool true) m := by rw [← hh]; exact rk
  have hho := at_house (callN P (d + 7)) h.o
  have hva := at_vals (callN P (d + 7)) h.o
  have rv := run_value_in d h.av hv hk
  have hu : (valAt s.vals k).under m.length = true := okk_under _ (valAt_okk hv k)
  simp [f_Counter_dot_value, start, hho, rk', hva, rv, hu]
theorem run_waiting (d : Nat) {m : Mem} {c a b g e : Nat} {s : Ct} (h : CtA m c a b g e s) (hl : s.asks.length < 900000) : callN P (d + 1) "Counter.waiting" [.ref c] m = .ok (.tup (s.asks.map fun x => pv x.1)) m := by
  rw [callN_mth e_Counter_dot_waiting rfl]
  have hat := at_asks (callN P d) h.o
  have hb := h.bv
  have hst : still (some (b, s.asks.map askV)) m := by unfold still; exact hb
  have cm : ∀ x1 x2, compLoop (some (b, s.asks.map askV)) (compEl (.tup [.name 1, .name 2]) [some (.ref c), x1, x2] (evalE P (callN P d) (.var 1))) (s.asks.map askV) m = .ok (s.asks.map fun x => pv x.1) m := fun x1 x2 => by
    rw [comp_pure (fun x => match x with
      | .tup [k, _] => some k
      | _ => none) hst fun x hx => ?_]
    · rw [List.filterMap_map]
      have : ((fun x => match x with
        | Val.tup [k, _] => some k
        | _ => none) ∘ askV) = fun x => some (pv x.1) := by funext x; rfl
      rw [this, List.filterMap_eq_map']
    · obtain ⟨q, _, eq⟩ := List.mem_map.mp hx
      subst eq
      simp [compEl, Tg.slots, Tg.slotsL, wipeL, askV]
  have ce : compEnd (.ok (s.asks.map fun x => pv x.1) m) = .ok (.ref m.length) (m ++ [.list (s.asks.map fun x => pv x.1)]) := compEnd_ok (by rw [List.length_map]; unfold SZ; omega)
  have bt := blt_tuple (seq_list (mem_new m (s.asks.map fun x => pv x.1)))
  have hu : (Val.tup (s.asks.map fun x => pv x.1)).under m.length = true := by
    rw [under_tup]; exact underL_all fun x hx => by obtain ⟨y, _, e⟩ := List.mem_map.mp hx; rw [← e]; simp
  have gg : gc m (.ok (.tup (s.asks.map fun x => pv x.1)) (m ++ [.list (s.asks.map fun x => pv x.1)])) = .ok (.tup (s.asks.map fun x => pv x.1)) m := gc_app hu
  generalize (s.asks.map fun x => pv x.1) = W at cm ce bt hu gg ⊢
  simp [f_Counter_dot_waiting, start, hat, hb, ↓cm, ce, bt, gg]
  exact gc_same hu
theorem pairs_pv : ∀ l : List Id, pairsOf (l.map pv) = some l
  | [] => rfl
  | p :: l => by
    rw [List.map_cons]
    unfold pv pairsOf
    have := pairs_pv l
    unfold pv at this
    rw [this]; rfl
theorem run_granted (d : Nat) {m : Mem} {c a b g e : Nat} {s : Ct} (h : CtA m c a b g e s) : callN P (d + 1) "Counter.granted" [.ref c] m = .ok (.tup ((sortPs (s.grants.map (·.1))).map pv)) m := by
  rw [callN_mth e_Counter_dot_granted rfl]
  have hgr := at_grants (callN P d) h.o
  have hk := keys_ok h.gv
  have ek : (mp pv grs s.grants).map (·.1) = (s.grants.map (·.1)).map pv := by unfold mp; rw [List.map_map, List.map_map]; rfl
  rw [ek] at hk
  generalize s.grants.map (·.1) = G at hk ⊢
  have hs : sortPR (.ref m.length) (m ++ [.list (G.map pv)]) = .ok (.ref (m ++ [Ob.list (G.map pv)]).length) (m ++ [.list (G.map pv)] ++ [.list ((sortPs G).map pv)]) := by
    exact sort_pairs (mem_new _ _) (pairs_pv _)
  have bt := blt_tuple (seq_list (mem_new (m ++ [Ob.list (G.map pv)]) ((sortPs G).map pv)))
  have hu : (Val.tup ((sortPs G).map pv)).under m.length = true := by
    rw [under_tup]; exact underL_all fun x hx => by obtain ⟨y, _, e⟩ := List.mem_map.mp hx; rw [← e]; simp
  have gg : gc m (.ok (.tup ((sortPs G).map pv)) (m ++ [.list (G.map pv)] ++ [.list ((sortPs G).map pv)])) = .ok (.tup ((sortPs G).map pv)) m := by rw [List.append_assoc]; exact gc_app hu
  obtain ⟨M1, eM1⟩ : ∃ M1 : Mem, M1 = m ++ [.list (G.map pv)] := ⟨_, rfl⟩
  rw [← eM1] at hk hs bt gg
  generalize (sortPs G).map pv = W at hs bt hu gg ⊢
  simp [f_Counter_dot_granted, start, hgr, hk, hs, bt, gg]
  exact gc_same hu
theorem callN_kw {P : Prog} {d : Nat} {f : PySem.Str} {fd : Fn} {vs : List Val} {m : Mem} (h : P.ent f = some (.kw fd)) (hl : vs.length = fd.np) : callN P (d + 1) f vs m = gc m (retOf (execB P (callN P d) fd.body (start fd.ns vs) m)) := by
  rw [callN, h]; simp only; rw [if_pos hl]
theorem callN_clsK {P : Prog} {d : Nat} {f i : PySem.Str} {vs : List Val} {m : Mem} (h : P.ent f = some (.clsK i)) : callN P (d + 1) f vs m = gc m ((callN P d i (.ref m.length :: vs) (m ++ [.inst f []])).bind (mkG m.length)) := by
  rw [callN, h]
theorem fl (x : PySem.Str) (h : (P.flds "Counter").contains x = true) : x ∈ P.flds "Counter" := by simpa using h
theorem fl1 : ("house" : PySem.Str) ∈ P.flds "Counter" := fl _ (by kernel_rfl)
theorem fl2 : ("values_now" : PySem.Str) ∈ P.flds "Counter" := fl _ (by kernel_rfl)
theorem fl3 : ("grants" : PySem.Str) ∈ P.flds "Counter" := fl _ (by kernel_rfl)
theorem fl4 : ("entries" : PySem.Str) ∈ P.flds "Counter" := fl _ (by kernel_rfl)
def startF (h : Int) (ws : List (Ky × Val)) : List (Ky × Val) := ws.foldl (fun l w => if w.1.1 = h then put2 l w.1 w.2 else l) []
theorem startF_snoc (h : Int) (ws : List (Ky × Val)) (w : Ky × Val) : startF h (ws ++ [w]) = if w.1.1 = h then put2 (startF h ws) w.1 w.2 else startF h ws := by unfold startF; rw [List.foldl_append]; rfl
theorem startF_len (h : Int) (ws : List (Ky × Val)) : (startF h ws).length ≤ ws.length := by
  unfold startF
  have : ∀ acc : List (Ky × Val), (ws.foldl (fun l w => if w.1.1 = h then put2 l w.1 w.2 else l) acc).length ≤ acc.length + ws.length := by
    induction ws with
    | nil => intro acc; exact Nat.le_refl _
    | cons w ws ih =>
      intro acc
      rw [List.foldl_cons, List.length_cons]
      have h1 := ih (if w.1.1 = h then put2 acc w.1 w.2 else acc)
      have h2 := put2_len acc w.1 w.2
      by_cases q : w.1.1 = h
      · rw [if_pos q] at h1 ⊢; omega
      · rw [if_neg q] at h1 ⊢; omega
  have := this []
  simpa using this
theorem startF_mem {h : Int} : ∀ {ws : List (Ky × Val)} {p : Ky × Val}, p ∈ startF h ws → p ∈ ws ∧ p.1.1 = h := by
  intro ws
  unfold startF
  have : ∀ (ws : List (Ky × Val)) (acc : List (Ky × Val)) (p : Ky × Val), p ∈ ws.foldl (fun l w => if w.1.1 = h then put2 l w.1 w.2 else l) acc → p ∈ acc ∨ (p ∈ ws ∧ p.1.1 = h) := by
    intro ws
    induction ws with
    | nil => intro acc p hp; exact .inl hp
    | cons w ws ih =>
      intro acc p hp
      rw [List.foldl_cons] at hp
      rcases ih _ p hp with q | q
      · split at q
        · rename_i hw
          rcases put2_mem q with q | q
          · exact .inl q
          · exact .inr ⟨by rw [q]; exact List.mem_cons_self, by rw [q]; exact hw⟩
        · exact .inl q
      · exact .inr ⟨List.mem_cons_of_mem _ q.1, q.2⟩
  intro p hp
  rcases this ws [] p hp with q | q
  · cases q
  · exact q
def newM (m : Mem) (h : Int) (vals : List (Ky × Val)) : Mem := m ++ [.inst "Counter" (fs h (m.length + 1) (m.length + 2) (m.length + 3) (m.length + 4)), .dict true (mp kyV id vals), .list [], .dict true [], .list []]
theorem newM_ct (m : Mem) (h : Int) (vals : List (Ky × Val)) : CtA (newM m h vals) m.length (m.length + 1) (m.length + 2) (m.length + 3) (m.length + 4) ⟨h, vals, [], [], []⟩ := by
  have g : ∀ j, (newM m h vals)[m.length + j]? = [Ob.inst "Counter" (fs h (m.length + 1) (m.length + 2) (m.length + 3) (m.length + 4)), .dict true (mp kyV id vals), .list [], .dict true [], .list []][j]? := fun j => by
    unfold newM; rw [List.getElem?_append_right (by omega)]; congr 1; omega
  refine ⟨by have := g 0; simpa using this, by have := g 1; simpa using this, ?_, by have := g 3; simpa [mp] using this, ?_, by simp, by simp⟩
  · have := g 2
    unfold Mem.list
    rw [this]; rfl
  · have := g 4
    unfold Mem.list
    rw [this]; rfl
theorem run_new (d : Nat) (m : Mem) (h : Int) (hh : 1 ≤ h ∧ h ≤ 5) (ws : List (Ky × Val)) (hok : ∀ w ∈ ws, okk w.2 = true) (hl : ws.length < 800000) : callN P (d + 3) "Counter" [.int h, wrs ws] m = .ok (.ref m.length) (newM m h (startF h ws)) := by
  rw [callN_clsK e_Counter, callN_kw e_Counter_dot___init__ rfl]
  have rb := fun m => run_between d m h 1 5
  have hb5 : (decide (1 ≤ h) && decide (h ≤ 5)) = true := by rw [decide_eq_true hh.1, decide_eq_true hh.2]; rfl
  have rb1 : callN P (d + 1) "is_between" [.int h, .int 1, .int 5] (m ++ [.inst "Counter" []]) = .ok (.bool true) (m ++ [.inst "Counter" []]) := by rw [rb, hb5]
  have hb : f_Counter_dot___init__.body = f_Counter_dot___init__.body.take 6 ++ f_Counter_dot___init__.body.drop 6 := by rfl
  have q1 : ∀ v : Val, putAttr "house" v ([] : List (PySem.Str × Val)) = ([("house", v)] : List (PySem.Str × Val)) := fun v => by rfl
  have q2 : ∀ v w : Val, putAttr "values_now" w ([("house", v)] : List (PySem.Str × Val)) = ([("house", v), ("values_now", w)] : List (PySem.Str × Val)) := fun v w => by rfl
  have q3 : ∀ v w x : Val, putAttr "asks" x ([("house", v), ("values_now", w)] : List (PySem.Str × Val)) = ([("house", v), ("values_now", w), ("asks", x)] : List (PySem.Str × Val)) := fun v w x => by rfl
  have q4 : ∀ v w x y : Val, putAttr "grants" y ([("house", v), ("values_now", w), ("asks", x)] : List (PySem.Str × Val)) = ([("house", v), ("values_now", w), ("asks", x), ("grants", y)] : List (PySem.Str × Val)) := fun v w x y => by rfl
  have q5 : ∀ v w x y z : Val, putAttr "entries" z ([("house", v), ("values_now", w), ("asks", x), ("grants", y)] : List (PySem.Str × Val)) = ([("house", v), ("values_now", w), ("asks", x), ("grants", y), ("entries", z)] : List (PySem.Str × Val)) := fun v w x y z => by rfl
  have T1 : execB P (callN P (d + 1)) (f_Counter_dot___init__.body.take 6) (start f_Counter_dot___init__.ns [.ref m.length, .int h, wrs ws]) (m ++ [.inst "Counter" []]) = .nx [some (.ref m.length), some (.int h), some (wrs ws), none, none] (newM m h []) := by
    simp [f_Counter_dot___init__, start, gO, gB, rb1, fl1, fl2, fl_asks, fl3, fl4, q1, q2, q3, q4, q5, newM, fs, mp]
  obtain ⟨l', m1, el, _, y3, y4, el1, em1⟩ := for_all (chk := none) (t := .tup [.name 3, .name 4]) (b := execB P (callN P (d + 1)) b_Counter_dot___init___1) (xs := ws.map wrV)
    (fun i l m' => i ≤ ws.length ∧ ∃ x3 x4, l = [some (.ref m.length), some (.int h), some (wrs ws), x3, x4] ∧ m' = newM m h (startF h (ws.take i)))
    (fun _ _ _ _ => still_none _) (fun i x l m' hx hi => by
      obtain ⟨_, y3, y4, el, em⟩ := hi
      subst el em
      rw [List.getElem?_map] at hx
      obtain ⟨w, hq, eq⟩ := Option.map_eq_some_iff.mp hx
      subst eq
      have hil : i < ws.length := (List.getElem?_eq_some_iff.mp hq).1
      have hsl := startF_len h (ws.take i)
      have htl : (ws.take i).length ≤ ws.length := by rw [List.length_take]; exact Nat.min_le_right _ _
      rw [take_snoc hq, startF_snoc]
      generalize startF h (ws.take i) = vs at hsl ⊢
      have C := newM_ct m h vs
      have hva := at_vals (callN P (d + 1)) C.o
      have hz : (mp kyV id vs).length < SZ := by unfold mp; rw [List.length_map]; unfold SZ; omega
      have hix : ∀ m, idxop m (kyV w.1) (.int 0) = some (.int w.1.1) := fun m => by
        show atIx _ 0 = _
        rw [at_nat (by decide) (by simp [kyT])]; rfl
      refine ⟨[some (.ref m.length), some (.int h), some (wrs ws), some (kyV w.1), some w.2], by simp [wrV], ?_⟩
      have dp := dput_ok (l := [some (.ref m.length), some (.int h), some (wrs ws), some (kyV w.1), some w.2]) (v := w.2) C.av (ky_put w.1) hz
      rw [show dput (mp kyV id vs) (kyV w.1) w.2 = mp kyV id (put2 vs w.1 w.2) from dput_mp (f := id) ky_eqv _ _ _] at dp
      have st : (newM m h vs).set (m.length + 1) (.dict true (mp kyV id (put2 vs w.1 w.2))) = newM m h (put2 vs w.1 w.2) := by
        unfold newM
        rw [List.set_append_right _ _ (by omega)]
        simp
      rw [st] at dp
      obtain ⟨M, eM⟩ : ∃ M, M = newM m h vs := ⟨_, rfl⟩
      rw [← eM] at hva dp ⊢
      by_cases q : w.1.1 = h
      · rw [if_pos q]
        have q' : (w.1.1 == h) = true := by simpa using q
        refine Flow.by (r' := .nx [some (.ref m.length), some (.int h), some (wrs ws), some (kyV w.1), some w.2] (newM m h (put2 vs w.1 w.2))) (by simp [b_Counter_dot___init___1, hix, q', hva, dp]) ?_
        exact Flow.nx_of ⟨hil, _, _, rfl, rfl⟩
      · rw [if_neg q]
        have q' : (w.1.1 == h) = false := by simpa using q
        refine Flow.by (r' := .nx [some (.ref m.length), some (.int h), some (wrs ws), some (kyV w.1), some w.2] M) (by simp [b_Counter_dot___init___1, hix, q']) ?_
        exact Flow.nx_of ⟨hil, _, _, rfl, eM⟩) (l := [some (.ref m.length), some (.int h), some (wrs ws), none, none]) (m := newM m h []) ⟨Nat.zero_le _, none, none, rfl, rfl⟩
  subst el1 em1
  rw [List.length_map, List.take_length] at el
  have eI : evalI P (callN P (d + 1)) (.seq (.var 2)) [some (.ref m.length), some (.int h), some (wrs ws), none, none] (newM m h []) = .ok (ws.map wrV, none) (newM m h []) := by
    simp [wrs]
  have C := newM_ct m h (startF h ws)
  have ex : execB P (callN P (d + 1)) f_Counter_dot___init__.body (start f_Counter_dot___init__.ns [.ref m.length, .int h, wrs ws]) (m ++ [.inst "Counter" []]) = .nx [some (.ref m.length), some (.int h), some (wrs ws), y3, y4] (newM m h (startF h ws)) := by
    rw [hb, execB_app, T1, fs_nx]
    simp [f_Counter_dot___init__, ↓eI, el]
  rw [ex]
  have hu : ∀ n, n ≤ m.length + 1 → (Ob.inst "Counter" (fs h (m.length + 1) (m.length + 2) (m.length + 3) (m.length + 4))).under n = false := fun n hn => by
    have : (Val.ref (m.length + 1)).under n = false := by unfold Val.under; exact decide_eq_false (by omega)
    unfold fs Ob.under
    simp [this]
  have g1 : gc (m ++ [Ob.inst "Counter" []]) (.ok .none (newM m h (startF h ws))) = .ok .none (newM m h (startF h ws)) := by
    refine gc_stay m.length _ (by rw [List.getElem?_take, if_pos (by simp)]; exact C.o) ?_ (hu _ (by simp))
    rw [get_new]
    intro z
    simp [fs] at z
  rw [ro_nx, g1]
  show gc m (.ok (.ref m.length) (newM m h (startF h ws))) = _
  unfold newM
  unfold gc
  have e : (m ++ [Ob.inst "Counter" (fs h (m.length + 1) (m.length + 2) (m.length + 3) (m.length + 4)), .dict true (mp kyV id (startF h ws)), .list [], .dict true [], .list []]).take m.length = m := by simp
  simp only [e]
  rw [if_pos ⟨by simp, fun i o q => .inl (by simpa using q)⟩]
  have hv : Val.under m.length (.ref m.length) = false := by unfold Val.under; exact decide_eq_false (by omega)
  rw [hv, if_neg (by decide)]
  simp only [get_newg]
  rw [if_neg (by rw [hu _ (by omega)]; simp)]
theorem run_newD (d : Nat) (m : Mem) (h : Int) (hh : 1 ≤ h ∧ h ≤ 5) : callN P (d + 3) "Counter" [.int h, .tup []] m = .ok (.ref m.length) (newM m h []) := run_new d m h hh [] (fun w hw => by cases hw) (by decide)

end L34

namespace L34
open Py
/-! ### the law's draws -/
def pw (m : Mem) (r : Nat) (xs : List Int) : Mem := m.set r (.list (xs.map .int))
theorem pw_self {m : Mem} {r : Nat} {xs : List Int} (h : m.list r = some (xs.map .int)) : m = pw m r xs := by
  have h := get_of_list h
  obtain ⟨hl, q⟩ := List.getElem?_eq_some_iff.mp h
  unfold pw
  rw [← q, List.set_getElem_self]
theorem pw_pw (m : Mem) (r : Nat) (xs ys : List Int) : pw (pw m r xs) r ys = pw m r ys := by
  unfold pw; rw [List.set_set]
theorem pw_list {m : Mem} {r : Nat} (hr : r < m.length) (xs : List Int) : Mem.list (pw m r xs) r = some (xs.map .int) := list_set_self hr
theorem draw (d : Nat) (m : Mem) {r : Nat} (hr : r < m.length) {xs : List Int} (hp : Pl xs) (many : Int) (hm : 0 < many) :
    ∃ (y : Int) (ys : List Int), 0 ≤ y ∧ y < many ∧ Pl ys ∧ callN P (d + 1) "_law_draw" [.ref r, .int many] (pw m r xs) = .ok (.int y) (pw m r ys) := by
  obtain ⟨y, ys, a, b, c, e⟩ := run_draw d (pw_list hr xs) hp hm
  exact ⟨y, ys, a, b, c, by rw [e]; exact congrArg _ (pw_pw m r xs ys)⟩
theorem gc_pw {m : Mem} {r : Nat} (hr : r < m.length) (xs ys : List Int) {v : Val} (hv : ∀ n, v.under n = true) : gc (pw m r xs) (.ok v (pw m r ys)) = .ok v (pw m r ys) := by
  have := gc_set0 (m0 := pw m r xs) (k := r) (o := .list (ys.map .int)) (v := v) (by unfold pw; simpa using hr) (by rw [ob_under]; exact underL_ints _ _) (hv _)
  rw [show (pw m r xs).set r (.list (ys.map .int)) = pw m r ys from pw_pw m r xs ys] at this
  exact this
theorem pw_app {m g : Mem} {r : Nat} (hr : r < m.length) (xs : List Int) : pw m r xs ++ g = pw (m ++ g) r xs := by
  unfold pw
  rw [List.set_append_left _ _ hr]
theorem pw_len (m : Mem) (r : Nat) (xs : List Int) : (pw m r xs).length = m.length := by unfold pw; simp
theorem gc_pwt {m : Mem} {r : Nat} (hr : r < m.length) (xs ys : List Int) (t : Mem) {v : Val} (hv : ∀ n, v.under n = true) : gc (pw m r xs) (.ok v (pw m r ys ++ t)) = .ok v (pw m r ys) := by
  have := gc_set (m0 := pw m r xs) (g := t) (k := r) (o := .list (ys.map .int)) (v := v) (by unfold pw; simpa using hr) (by rw [ob_under]; exact underL_ints _ _) (hv _)
  rw [show (pw m r xs).set r (.list (ys.map .int)) = pw m r ys from pw_pw m r xs ys] at this
  exact this
theorem joinL_one : ∀ cs : List Nat, joinL [] (cs.map fun c => [c]) = cs
  | [] => rfl
  | [c] => rfl
  | c :: d :: r => by
    have := joinL_one (d :: r)
    simp only [List.map_cons] at this ⊢
    unfold joinL
    rw [this]; rfl
theorem strs_one : ∀ cs : List Nat, strsOf (cs.map fun c => .str [c]) = some (cs.map fun c => [c])
  | [] => rfl
  | c :: r => by simp [strsOf, strs_one r]
theorem sum_one : ∀ cs : List Nat, ((cs.map fun c => [c]).map List.length).sum = cs.length
  | [] => rfl
  | c :: r => by
    have := sum_one r
    simp only [List.map_cons, List.sum_cons, List.length_cons, List.length_nil] at this ⊢
    omega
theorem letter_at {k : Int} (h0 : 0 ≤ k) (h1 : k < 26) : ∃ c, c ∈ letters ∧ ∀ m, idxop m (.str letters) (.int k) = some (.str [c]) := by
  have hl : k.toNat < letters.length := by show k.toNat < 26; omega
  refine ⟨letters[k.toNat]'hl, List.getElem_mem _, fun m => ?_⟩
  have e : idxop m (.str letters) (.int k) = if letters.length ≤ SZ then (atIx letters k).map fun c => Val.str [c] else none := rfl
  rw [e, if_pos (by decide), at_nat h0 hl]
  rfl
theorem comp_rng {C : Calls} (m : Mem) (n : Nat) (l : Loc) (el : E) (g : Int → Nat) (he : ∀ k : Int, 0 ≤ k → k < n → evalE P C el ((wipeL l [5]).set 5 (some (.int k))) m = .ok (.str [g k]) m) :
    compLoop none (compEl (.name 5) l (evalE P C el)) ((List.range n).map fun (i : Nat) => .int i) m = .ok (((List.range n).map fun (i : Nat) => g i).map fun c => .str [c]) m := by
  rw [comp_pure (fun x => match x with
    | .int i => some (.str [g i])
    | _ => none) (still_none _) fun x hx => ?_]
  · congr 1
    rw [List.filterMap_map, List.map_map]
    show List.filterMap (some ∘ fun (i : Nat) => Val.str [g i]) (List.range n) = _
    rw [List.filterMap_eq_map]
    rfl
  · obtain ⟨i, hi, ex⟩ := List.mem_map.mp hx
    have hi : i < n := by simpa using hi
    obtain ⟨k, ek, k0, k1⟩ : ∃ k : Int, x = .int k ∧ 0 ≤ k ∧ k < n := ⟨i, ex.symm, by omega, by omega⟩
    subst ek
    have h := he k k0 k1
    simp [compEl, Tg.slots, h]
theorem run_wordL (d : Nat) (m : Mem) (a b n : Int) (hn : 1 ≤ n ∧ n ≤ 8) : ∃ w, Wd w ∧ callN P (d + 1) "_law_word" [.int a, .int b, .int n] m = .ok (.str w) m := by
  rw [callN_fn e__law_word rfl]
  have hg : ∀ k : Int, ∃ c, (0 ≤ k → k < n.toNat → c ∈ letters ∧ evalE P (callN P d) (.idx (.var 3) (.bin .mod (.blt .int [(.bin .add (.bin .fdiv (.var 4) (.idx (.lst [(.lit (.int 1)), (.lit (.int 26)), (.lit (.int 676)), (.lit (.int 17576))]) (.bin .mod (.var 5) (.lit (.int 4))))) (.bin .fdiv (.bin .mul (.bin .fdiv (.var 5) (.lit (.int 4))) (.var 4)) (.lit (.int 7))))]) (.lit (.int 26)))) [some (.int a), some (.int b), some (.int n), some (.str letters), some (.int (a * 2520 + b)), some (.int k)] m = .ok (.str [c]) m) := fun k => by
    by_cases hk : 0 ≤ k ∧ k < n.toNat
    · obtain ⟨x, ex, dx⟩ : ∃ x : Int, divOk x ∧ ∀ m g, idxop (m ++ .list [.int 1, .int 26, .int 676, .int 17576] :: g) (.ref m.length) (.int (k % 4)) = some (.int x) := by
        have k0 := mod_lo k 4
        have k1 := mod_hi k 4
        have hx := at_nat (xs := [Val.int 1, .int 26, .int 676, .int 17576]) k0 (by show _ < 4; omega)
        rcases (by omega : k % 4 = 0 ∨ k % 4 = 1 ∨ k % 4 = 2 ∨ k % 4 = 3) with q | q | q | q
        · exact ⟨1, by decide, fun m g => by rw [idx_list (mem_newg _ _ _), q]; rfl⟩
        · exact ⟨26, by decide, fun m g => by rw [idx_list (mem_newg _ _ _), q]; rfl⟩
        · exact ⟨676, by decide, fun m g => by rw [idx_list (mem_newg _ _ _), q]; rfl⟩
        · exact ⟨17576, by decide, fun m g => by rw [idx_list (mem_newg _ _ _), q]; rfl⟩
      obtain ⟨c, hc, ec⟩ := letter_at (k := ((a * 2520 + b).fdiv x + ((k.fdiv 4) * (a * 2520 + b)).fdiv 7) % 26) (mod_lo _ _) (mod_hi _ _)
      refine ⟨c, fun _ _ => ⟨hc, ?_⟩⟩
      have M : mulOk (k.fdiv 4) (a * 2520 + b) := mul_l (by have := Int.fdiv_eq_ediv_of_nonneg k (show (0 : Int) ≤ 4 by decide); omega)
      have dx' := dx m []
      have gg : ∀ v : Int, gc m (.ok (.int v) (m ++ [.list [.int 1, .int 26, .int 676, .int 17576]])) = .ok (.int v) m := fun v => gc_app (by simp)
      generalize a * 2520 + b = ab at M ec ⊢
      simp [op_modI, op_divI ex, op_divI (show divOk 4 by decide), op_divI (show divOk 7 by decide), op_mulI M, dx', show (4 : Nat) ≤ SZ by decide, gg, ec]
    · exact ⟨0, fun h1 h2 => absurd ⟨h1, h2⟩ hk⟩
  obtain ⟨g, hg⟩ := Classical.axiomOfChoice hg
  have lt := comp_rng (C := callN P d) m n.toNat [some (.int a), some (.int b), some (.int n), some (.str letters), some (.int (a * 2520 + b)), none] _ g (fun k k0 k1 => (hg k k0 k1).2)
  obtain ⟨cs, ecs⟩ : ∃ cs, cs = (List.range n.toNat).map fun (i : Nat) => g (i : Int) := ⟨_, rfl⟩
  rw [← ecs] at lt
  have hcl : cs.length = n.toNat := by rw [ecs]; simp
  refine ⟨cs, ⟨by omega, by omega, fun c hc => ?_⟩, ?_⟩
  · rw [ecs] at hc
    obtain ⟨i, hi, e⟩ := List.mem_map.mp hc
    have hi : i < n.toNat := by simpa using hi
    rw [← e]; exact (hg i (by omega) (by omega)).1
  · have ce : compEnd (.ok (cs.map fun c => Val.str [c]) m) = .ok (.ref m.length) (m ++ [.list (cs.map fun c => Val.str [c])]) := compEnd_ok (by rw [List.length_map]; unfold SZ; omega)
    have jr : joinR [] (.ref m.length) (m ++ [.list (cs.map fun c => Val.str [c])]) = .ok (.str cs) (m ++ [.list (cs.map fun c => Val.str [c])]) := by
      unfold joinR
      rw [seq_list (mem_new _ _)]
      simp only [Option.bind_some, strs_one, joinL_one]
      rw [if_pos (by rw [sum_one]; simp; unfold SZ; omega)]
    have hgc : gc m (.ok (.str cs) (m ++ [.list (cs.map fun c => Val.str [c])])) = .ok (.str cs) m := gc_app (by simp)
    have hj : -4611686018427387904 ≤ n ∧ n < 4611686018427387904 := by omega
    have M : mulOk a 2520 := mul_r (by decide)
    unfold letters at lt
    simp [f__law_word, start, op_mulI M, hj, ↓lt, ce, jr, hgc]
def mulT (r : Int) : Int := if r = 0 then 1 else if r = 1 then 2 else if r = 2 then 5 else if r = 3 then 100 else 998
def idOf (step k : Int) : Id := ((step + k) % 10, 1 + ((k.fdiv (1 + (step.fdiv 5) % 10)) * mulT (step % 5) + step) % 999)
theorem idOf_ok (step k : Int) : IdOk (idOf step k) := by
  have a0 := mod_lo (step + k) 10
  have a1 := mod_hi (step + k) 10
  obtain ⟨z, ez⟩ : ∃ z, (idOf step k).2 = 1 + z % 999 := ⟨_, rfl⟩
  have b0 := mod_lo z 999
  have b1 := mod_hi z 999
  refine ⟨⟨a0, ?_⟩, ?_, ?_⟩
  · show (step + k) % 10 ≤ 9; omega
  · rw [ez]; omega
  · rw [ez]; omega
theorem run_id (d : Nat) (m : Mem) (step k : Int) (hs : 0 ≤ step ∧ step < 2520) (hk : 0 ≤ k ∧ k < 40) : callN P (d + 1) "_law_id" [.int step, .int k] m = .ok (pv (idOf step k)) m := by
  rw [callN_fn e__law_id rfl]
  have g0 := mod_lo (step.fdiv 5) 10
  have g1 := mod_hi (step.fdiv 5) 10
  have dv : divOk (1 + (step.fdiv 5) % 10) := divOk_small ⟨by omega, by omega⟩
  obtain ⟨x, ex, hx, dx⟩ : ∃ x : Int, x = mulT (step % 5) ∧ (0 ≤ x ∧ x < 1000) ∧ ∀ m g, idxop (m ++ .list [.int 1, .int 2, .int 5, .int 100, .int 998] :: g) (.ref m.length) (.int (step % 5)) = some (.int x) := by
    have k0 := mod_lo step 5
    have k1 := mod_hi step 5
    have hx := at_nat (xs := [Val.int 1, .int 2, .int 5, .int 100, .int 998]) k0 (by show _ < 5; omega)
    rcases (by omega : step % 5 = 0 ∨ step % 5 = 1 ∨ step % 5 = 2 ∨ step % 5 = 3 ∨ step % 5 = 4) with q | q | q | q | q
    · exact ⟨1, by rw [q]; rfl, by decide, fun m g => by rw [idx_list (mem_newg _ _ _), q]; rfl⟩
    · exact ⟨2, by rw [q]; rfl, by decide, fun m g => by rw [idx_list (mem_newg _ _ _), q]; rfl⟩
    · exact ⟨5, by rw [q]; rfl, by decide, fun m g => by rw [idx_list (mem_newg _ _ _), q]; rfl⟩
    · exact ⟨100, by rw [q]; rfl, by decide, fun m g => by rw [idx_list (mem_newg _ _ _), q]; rfl⟩
    · exact ⟨998, by rw [q]; rfl, by decide, fun m g => by rw [idx_list (mem_newg _ _ _), q]; rfl⟩
  have dx' := dx m []
  unfold idOf
  rw [← ex]
  have M : mulOk (k.fdiv (1 + (step.fdiv 5) % 10)) x := mul_r (by omega)
  have fin : ∀ (p : Id) (t : Mem), gc m (.ok (.tup [.int p.1, .int p.2]) (m ++ t)) = .ok (pv p) m := fun p t => gc_app (by simp)
  obtain ⟨t, ht⟩ : ∃ t, execB P (callN P d) f__law_id.body (start f__law_id.ns [.int step, .int k]) m = .ret (.tup [.int ((step + k) % 10), .int (1 + ((k.fdiv (1 + (step.fdiv 5) % 10)) * x + step) % 999)]) (m ++ t) := by
    have gl : ∀ (m : Mem) (v : Int), gc m (.ok (.int v) m) = .ok (.int v) m := fun m v => gc_same (by simp)
    exact ⟨_, by simp [f__law_id, start, op_modI, op_divI (show divOk 5 by decide), op_divI dv, dx', op_mulI M, show (5 : Nat) ≤ SZ by decide, show (2 : Nat) ≤ SZ by decide] <;> rfl⟩
  rw [ht]
  exact fin (_, _) t

end L34

namespace L34
open Py
theorem mulT_cases (r : Int) : mulT r = 1 ∨ mulT r = 2 ∨ mulT r = 5 ∨ mulT r = 100 ∨ mulT r = 998 := by
  unfold mulT
  split
  · exact .inl rfl
  · split
    · exact .inr (.inl rfl)
    · split
      · exact .inr (.inr (.inl rfl))
      · split
        · exact .inr (.inr (.inr (.inl rfl)))
        · exact .inr (.inr (.inr (.inr rfl)))
theorem mod_eq (A B x s : Int) (hA : 0 ≤ A ∧ A < 40) (hB : 0 ≤ B ∧ B < 40) (hx : x = 1 ∨ x = 2 ∨ x = 5 ∨ x = 100 ∨ x = 998) (h : (A * x + s) % 999 = (B * x + s) % 999) : A = B := by
  rcases hx with rfl | rfl | rfl | rfl | rfl <;> omega
theorem div_eq (i j g : Int) (hi : 0 ≤ i ∧ i < 40) (hj : 0 ≤ j ∧ j < 40) (hg : 1 ≤ g ∧ g ≤ 10) (h : i / g = j / g) (h2 : i % 10 = j % 10) : i = j := by
  rcases (by omega : g = 1 ∨ g = 2 ∨ g = 3 ∨ g = 4 ∨ g = 5 ∨ g = 6 ∨ g = 7 ∨ g = 8 ∨ g = 9 ∨ g = 10) with rfl | rfl | rfl | rfl | rfl | rfl | rfl | rfl | rfl | rfl <;> omega
theorem idOf_inj (step i j : Int) (hi : 0 ≤ i ∧ i < 40) (hj : 0 ≤ j ∧ j < 40) (h : idOf step i = idOf step j) : i = j := by
  have h1 : (step + i) % 10 = (step + j) % 10 := congrArg Prod.fst h
  have h2 : 1 + ((i.fdiv (1 + (step.fdiv 5) % 10)) * mulT (step % 5) + step) % 999 = 1 + ((j.fdiv (1 + (step.fdiv 5) % 10)) * mulT (step % 5) + step) % 999 := congrArg Prod.snd h
  have g0 := mod_lo (step.fdiv 5) 10
  have g1 := mod_hi (step.fdiv 5) 10
  generalize (step.fdiv 5) % 10 = u at h2 g0 g1
  have e : ∀ z : Int, z.fdiv (1 + u) = z / (1 + u) := fun z => Int.fdiv_eq_ediv_of_nonneg z (by omega)
  rw [e, e] at h2
  have dA : ∀ z : Int, 0 ≤ z ∧ z < 40 → 0 ≤ z / (1 + u) ∧ z / (1 + u) < 40 := fun z hz =>
    ⟨Int.ediv_nonneg hz.1 (by omega), by have := Int.ediv_le_self (1 + u) hz.1; omega⟩
  have h3 := mod_eq _ _ _ step (dA i hi) (dA j hj) (mulT_cases (step % 5)) (by omega)
  exact div_eq i j (1 + u) hi hj (by omega) h3 (by omega)
theorem run_large (d : Nat) (m : Mem) {r : Nat} (hr : r < m.length) {xs : List Int} (hp : Pl xs) (most : Int) (hm : 30 ≤ most ∧ most ≤ 1000000000) :
    ∃ (y : Int) (ys : List Int), 0 ≤ y ∧ y ≤ most ∧ Pl ys ∧ callN P (d + 2) "_law_large" [.ref r, .int most] (pw m r xs) = .ok (.int y) (pw m r ys) := by
  rw [callN_fn e__law_large rfl]
  obtain ⟨a, xa, a0, a1, pa, ea⟩ := draw d m hr hp 2520 (by decide)
  obtain ⟨b, xb, b0, b1, pb, eb⟩ := draw d m hr pa 2520 (by decide)
  obtain ⟨c, xc, c0, c1, pc, ec⟩ := draw d m hr pb 2520 (by decide)
  have M1 : ∀ z : Int, mulOk z 2520 := fun z => mul_r (by decide)
  have gI : ∀ (v : Int) (m : Mem), gc m (.ok (.int v) m) = .ok (.int v) m := fun v m => gc_same (by simp)
  have gP : ∀ (v : Int) (xs ys : List Int), gc (pw m r xs) (.ok (.int v) (pw m r ys)) = .ok (.int v) (pw m r ys) := fun v xs ys => gc_pw hr xs ys (fun n => by simp)
  have k0 := mod_lo ((a * 2520 + b) * 2520 + c) 4
  have k1 := mod_hi ((a * 2520 + b) * 2520 + c) 4
  have m1 : 0 < most + 1 := by omega
  have p1 := mod_lo (a * 2520 + b) (most + 1) m1
  have p2 := mod_hi (a * 2520 + b) (most + 1) m1
  have p3 := mod_lo ((a * 2520 + b) * 2520 + c) (most + 1) m1
  have p4 := mod_hi ((a * 2520 + b) * 2520 + c) (most + 1) m1
  have p5 := mod_lo a 4
  have p6 := mod_hi a 4
  have p7 := mod_lo a 30
  have p8 := mod_hi a 30
  obtain ⟨y, y0, y1, ey⟩ : ∃ y : Int, 0 ≤ y ∧ y ≤ most ∧ ∀ m g, idxop (m ++ .list [.int (a % 4), .int (a % 30), .int ((a * 2520 + b) % (most + 1)), .int (((a * 2520 + b) * 2520 + c) % (most + 1))] :: g) (.ref m.length) (.int (((a * 2520 + b) * 2520 + c) % 4)) = some (.int y) := by
    have hx := at_nat (xs := [Val.int (a % 4), .int (a % 30), .int ((a * 2520 + b) % (most + 1)), .int (((a * 2520 + b) * 2520 + c) % (most + 1))]) k0 (by show _ < 4; omega)
    rcases (by omega : ((a * 2520 + b) * 2520 + c) % 4 = 0 ∨ ((a * 2520 + b) * 2520 + c) % 4 = 1 ∨ ((a * 2520 + b) * 2520 + c) % 4 = 2 ∨ ((a * 2520 + b) * 2520 + c) % 4 = 3) with q | q | q | q
    · exact ⟨_, p5, by omega, fun m g => by rw [idx_list (mem_newg _ _ _), q]; rfl⟩
    · exact ⟨_, p7, by omega, fun m g => by rw [idx_list (mem_newg _ _ _), q]; rfl⟩
    · exact ⟨_, p1, by omega, fun m g => by rw [idx_list (mem_newg _ _ _), q]; rfl⟩
    · exact ⟨_, p3, by omega, fun m g => by rw [idx_list (mem_newg _ _ _), q]; rfl⟩
  refine ⟨y, xc, y0, y1, pc, ?_⟩
  have ey' := ey (pw m r xc) []
  obtain ⟨t, ht⟩ : ∃ t, execB P (callN P (d + 1)) f__law_large.body (start f__law_large.ns [.ref r, .int most]) (pw m r xs) = .ret (.int y) (pw m r xc ++ t) :=
    ⟨_, by simp [f__law_large, start, ea, eb, ec, op_mulI (M1 _), gP, gI, op_modI, op_modI m1, show (4 : Nat) ≤ SZ by decide, ey'] <;> rfl⟩
  rw [ht]
  exact gc_pwt hr xs xc t (fun n => by simp)

end L34

namespace L34
open Py
/-! ### the reckoning of the law, and the counter's look -/
abbrev Fd := List Nat × Int
abbrev Sd := Id × List Rq × List Fd
def nV (kd : List Nat) (n : Int) : Val := if kd = sAdd then .none else .int n
def fV (y : Fd) : Val := nV y.1 y.2
def hard (S : List Fd) : Bool := S.any fun x => decide (x.1 = sSee) || decide (x.1 = sShort)
def sees (S : List Fd) : Bool := S.all fun x => decide (x.1 = sSee)
def am1 (x : Fd) : Int := if x.1 = sAmple then x.2 else 0
def asum (S : List Fd) : Int := (S.map am1).sum
def beside (v : Int) (S : List Fd) (mode : List Nat) (many : Int) : Option Fd :=
  if mode = sSee then (if sees S = true then some (sSee, v) else none)
  else if mode = sAdd then (if hard S = true then none else some (sAdd, 0))
  else if hard S = false ∧ many ≤ v - asum S then some (sAmple, many)
  else if S = [] then some (sShort, v) else none
def SK (x : List Nat) : Prop := x = sSee ∨ x = sAdd ∨ x = sAmple ∨ x = sShort
def WM (x : List Nat) : Prop := x = sSee ∨ x = sAdd ∨ x = sTake
def SI (S : List Fd) : Prop := ∀ x ∈ S, SK x.1
theorem hard_all {S : List Fd} (hi : SI S) : ((S.map fun x : Fd => (x.1, am1 x)).all fun x => decide (x.1 = sAdd) || decide (x.1 = sAmple)) = !hard S := by
  unfold hard
  induction S with
  | nil => rfl
  | cons x S ih =>
    rw [List.map_cons, List.all_cons, ih (fun y hy => hi y (List.mem_cons_of_mem _ hy)), List.any_cons]
    rcases hi x List.mem_cons_self with q | q | q | q <;> (simp only [q]; cases (S.any fun x => decide (x.1 = sSee) || decide (x.1 = sShort)) <;> decide)
theorem sees_all (S : List Fd) : ((S.map fun x : Fd => (x.1, am1 x)).all fun x => decide (x.1 = sSee)) = sees S := by
  unfold sees; rw [List.all_map]; rfl
theorem sum_of (S : List Fd) : ((S.map fun x : Fd => (x.1, am1 x)).map (·.2)).sum = asum S := by
  unfold asum; rw [List.map_map]; rfl
theorem kind_of {S : List Fd} (hi : SI S) (v : Int) {mode : List Nat} (many : Int) (hx : WM mode) : kindF (S.map fun x => (x.1, am1 x)) v mode many = (beside v S mode many).map (·.1) := by
  have hn : (S.map fun x : Fd => (x.1, am1 x)) = [] ↔ S = [] := List.map_eq_nil_iff
  have h1 := hard_all hi
  have h2 := sees_all S
  have h3 := sum_of S
  have h4 : S = [] → sees S = true ∧ hard S = false := fun e => by subst e; exact ⟨rfl, rfl⟩
  generalize (S.map fun x : Fd => (x.1, am1 x)) = st at hn h1 h2 h3 ⊢
  unfold kindF beside
  generalize hard S = hd at h1 h4 ⊢
  generalize sees S = se at h2 h4 ⊢
  have n1 : sAdd ≠ sSee := by decide
  have n2 : sAdd ≠ sOwn := by decide
  have n3 : sTake ≠ sSee := by decide
  have n4 : sTake ≠ sAdd := by decide
  have n5 : sTake ≠ sOwn := by decide
  have n6 : sSee ≠ sTake := by decide
  have n7 : sAdd ≠ sTake := by decide
  rcases hx with q | q | q
  · rw [q]
    by_cases e : S = []
    · have := h4 e; simp [hn.mpr e, this.1, n6]
    · have e' : st ≠ [] := fun z => e (hn.mp z)
      rw [if_neg (fun z => e' z.1), if_pos rfl, if_pos rfl, h2]
      cases se <;> rfl
  · rw [q]
    by_cases e : S = []
    · have := h4 e; simp [hn.mpr e, this.2, n1, n7]
    · have e' : st ≠ [] := fun z => e (hn.mp z)
      rw [if_neg (fun z => e' z.1), if_neg n1, h1]
      cases hd <;> simp [n1, n2]
  · rw [q, if_neg (fun z => z.2 rfl), if_neg n3, h1, h3]
    cases hd with
    | true =>
      have e : S ≠ [] := fun e => by have := (h4 e).2; cases this
      simp [e, n3, n4]
    | false =>
      by_cases q2 : many ≤ v - asum S
      · simp [q2, n3, n4, n5]
      · by_cases e : S = []
        · subst e; have := hn.mpr rfl; subst this; simp only [n3, n4, n5, q2, if_false, if_true]; by_cases q3 : many ≤ v - asum [] <;> simp_all
        · simp [q2, n3, n4, n5, hn, e]
theorem beside_kind {v : Int} {S : List Fd} {mode : List Nat} {many : Int} {y : Fd} (h : beside v S mode many = some y) : (y = (sSee, v) ∧ mode = sSee ∧ sees S = true) ∨ (y = (sAdd, 0) ∧ mode = sAdd ∧ hard S = false) ∨ (y = (sAmple, many) ∧ mode ≠ sSee ∧ mode ≠ sAdd ∧ hard S = false ∧ many ≤ v - asum S) ∨ (y = (sShort, v) ∧ mode ≠ sSee ∧ mode ≠ sAdd ∧ S = []) := by
  unfold beside at h
  split at h
  · rename_i q
    split at h
    · rename_i q2; cases h; exact .inl ⟨rfl, q, q2⟩
    · cases h
  · rename_i q
    split at h
    · rename_i q1
      split at h
      · cases h
      · rename_i q2; cases h; exact .inr (.inl ⟨rfl, q1, by simpa using q2⟩)
    · rename_i q1
      split at h
      · rename_i q2; cases h; exact .inr (.inr (.inl ⟨rfl, q, q1, q2⟩))
      · split at h
        · rename_i q3; cases h; exact .inr (.inr (.inr ⟨rfl, q, q1, q3⟩))
        · cases h
theorem beside_SK {v : Int} {S : List Fd} {mode : List Nat} {many : Int} {y : Fd} (h : beside v S mode many = some y) : SK y.1 := by
  rcases beside_kind h with q | q | q | q <;> rw [q.1]
  · exact .inl rfl
  · exact .inr (.inl rfl)
  · exact .inr (.inr (.inl rfl))
  · exact .inr (.inr (.inr rfl))
/-- what stands on a key -/
def thr (S : List Sd) (k : Ky) : List Fd := S.flatMap fun x => (x.2.1.zip x.2.2).filterMap fun p => if p.1.1 = k then some p.2 else none
def grZ (reqs : List Rq) (fd : List Fd) : List Gr := (reqs.zip fd).map fun p => (p.1.1, p.2.1, am1 p.2)
def gOf (x : Sd) : Id × List Gr := (x.1, grZ x.2.1 x.2.2)
def SI2 (S : List Sd) : Prop := ∀ x ∈ S, SI x.2.2
theorem st_of (k : Ky) : ∀ S : List Sd, stOn (S.map gOf) k = (thr S k).map fun x => (x.1, am1 x)
  | [] => rfl
  | x :: S => by
    have ih := st_of k S
    unfold stOn thr at ih ⊢
    rw [List.map_cons, List.flatMap_cons, ih, List.flatMap_cons, List.map_append]
    congr 1
    unfold gOf grZ
    rw [List.filterMap_map, List.map_filterMap]
    congr 1
    funext p
    show (if p.1.1 = k then some (p.2.1, am1 p.2) else none) = _
    by_cases q : p.1.1 = k
    · rw [if_pos q, if_pos q]; rfl
    · rw [if_neg q, if_neg q]; rfl
theorem thr_SI {S : List Sd} (h : SI2 S) (k : Ky) : SI (thr S k) := fun y hy => by
  unfold thr at hy
  obtain ⟨x, hx, hy⟩ := List.mem_flatMap.mp hy
  obtain ⟨p, hp, e⟩ := List.mem_filterMap.mp hy
  split at e
  · cases e; exact h x hx _ (List.of_mem_zip hp).2
  · cases e
def besideR (vals : List (Ky × Val)) (S : List Sd) (r : Rq) : Option Fd := beside (vI vals r.1) (thr S r.1) r.2.1 r.2.2
def bkd (L : List (Id × List Rq)) (k : Ky) : Bool := L.any fun a => a.2.any fun q => decide (q.1 = k)
def shares (x y : Id × List Rq) : Bool := y.2.any fun r => x.2.any fun q => decide (q.1 = r.1)
theorem any_shares (L : List (Id × List Rq)) (a : Id × List Rq) : (L.any fun o => shares o a) = a.2.any fun r => bkd L r.1 := by
  unfold shares bkd
  rw [Bool.eq_iff_iff]
  simp only [List.any_eq_true]
  constructor
  · rintro ⟨o, h1, r, h2, q, h3, h4⟩; exact ⟨r, h2, o, h1, q, h3, h4⟩
  · rintro ⟨r, h2, o, h1, q, h3, h4⟩; exact ⟨o, h1, r, h2, q, h3, h4⟩
theorem grants_of {vals : List (Ky × Val)} {S : List Sd} (hi : SI2 S) {blk : List (Ky × Val)} {L : List (Id × List Rq)} (hb : ∀ k, (look2 blk k).isSome = bkd L k) : ∀ reqs : List Rq, (∀ r ∈ reqs, WM r.2.1) →
    mapO (grant1 vals (S.map gOf) blk) reqs = if (reqs.any fun r => bkd L r.1) = true then none else (mapO (besideR vals S) reqs).map fun fd => grZ reqs fd
  | [], _ => rfl
  | r :: rs, hw => by
    have ih := grants_of (vals := vals) hi hb rs fun z hz => hw z (List.mem_cons_of_mem _ hz)
    have e : grant1 vals (S.map gOf) blk r = if bkd L r.1 = true then none else (besideR vals S r).map fun y => (r.1, y.1, am1 y) := by
      unfold grant1
      rw [hb]
      by_cases q : bkd L r.1 = true
      · rw [if_pos q, if_pos q]
      · rw [if_neg q, if_neg q, st_of, kind_of (thr_SI hi _) _ _ (hw r List.mem_cons_self)]
        unfold besideR
        cases h : beside (vI vals r.1) (thr S r.1) r.2.1 r.2.2 with
        | none => rfl
        | some y =>
          show some (r.1, y.1, if y.1 = sAmple then r.2.2 else 0) = some (r.1, y.1, am1 y)
          unfold am1
          rcases beside_kind h with q | q | q | q <;> (rw [q.1]; try rfl)
    unfold mapO
    rw [e, ih, List.any_cons]
    cases q : bkd L r.1 with
    | true => rfl
    | false =>
      cases h : besideR vals S r with
      | none => simp
      | some y =>
        by_cases q2 : (rs.any fun r => bkd L r.1) = true
        · simp [q2]
        · cases h2 : mapO (besideR vals S) rs with
          | none => simp [q2]
          | some fd => simp [q2, grZ]
structure PS where
  S : List Sd
  E : List (Bool × Id)
  T : List (Id × List Fd)
  L : List (Id × List Rq)
def pstep (vals : List (Ky × Val)) (t : PS) (a : Id × List Rq) : PS :=
  if (t.L.any fun o => shares o a) = true then { t with L := t.L ++ [a] }
  else match mapO (besideR vals t.S) a.2 with
    | none => { t with L := t.L ++ [a] }
    | some fd => { t with S := t.S ++ [(a.1, a.2, fd)], E := t.E ++ [(true, a.1)], T := t.T ++ [(a.1, fd)] }
def pass (vals : List (Ky × Val)) (S : List Sd) (E : List (Bool × Id)) (W : List (Id × List Rq)) : PS := W.foldl (pstep vals) ⟨S, E, [], []⟩
theorem mapO_SK {vals : List (Ky × Val)} {S : List Sd} {reqs : List Rq} {fd : List Fd} (h : mapO (besideR vals S) reqs = some fd) : SI fd := fun y hy => by
  obtain ⟨x, _, e⟩ := mapO_mem h hy
  exact beside_SK e
theorem ans_of {vals : List (Ky × Val)} (hv : VI vals) {S : List Sd} : ∀ {reqs : List Rq} {fd : List Fd}, (∀ r ∈ reqs, amt r.1) → mapO (besideR vals S) reqs = some fd → (grZ reqs fd).map (ansF vals) = fd.map fV
  | [], fd, _, h => by unfold mapO at h; cases h; rfl
  | r :: rs, fd, ha, h => by
    unfold mapO at h
    cases e : besideR vals S r with
    | none => rw [e] at h; cases h
    | some y =>
      rw [e] at h
      obtain ⟨fd', e2, e3⟩ := Option.map_eq_some_iff.mp h
      subst e3
      have ih := ans_of hv (fun z hz => ha z (List.mem_cons_of_mem _ hz)) e2
      have e4 : ansF vals (r.1, y.1, am1 y) = fV y := by
        unfold ansF fV nV am1
        rcases beside_kind e with q | q | q | q <;> rw [q.1]
        · exact hv.at (ha r List.mem_cons_self)
        · rfl
        · rfl
        · exact hv.at (ha r List.mem_cons_self)
      show ansF vals (r.1, y.1, am1 y) :: (grZ rs fd').map (ansF vals) = fV y :: fd'.map fV
      rw [e4, ih]
theorem look2_put_some (l : List (Ky × Val)) (k k' : Ky) (v : Val) : (look2 (put2 l k v) k').isSome = ((look2 l k').isSome || decide (k = k')) := by
  have any_look : ∀ (l : List (Ky × Val)) (k : Ky), (look2 l k).isSome = l.any fun p => decide (p.1 = k) := fun l k => by
    unfold look2; rw [Option.isSome_map, Bool.eq_iff_iff, List.find?_isSome, List.any_eq_true]
  rw [any_look, any_look]
  unfold put2
  split
  · rename_i h
    rw [Bool.eq_iff_iff]
    simp only [List.any_eq_true, Bool.or_eq_true, decide_eq_true_eq]
    constructor
    · rintro ⟨p, hp, e⟩
      obtain ⟨q, hq, eq⟩ := List.mem_map.mp hp
      split at eq
      · rename_i e1; subst eq; exact .inl ⟨q, hq, e⟩
      · subst eq; exact .inl ⟨q, hq, e⟩
    · rintro (⟨p, hp, e⟩ | e)
      · by_cases q : p.1 = k
        · exact ⟨(p.1, v), List.mem_map.mpr ⟨p, hp, if_pos q⟩, e⟩
        · exact ⟨p, List.mem_map.mpr ⟨p, hp, if_neg q⟩, e⟩
      · obtain ⟨p, hp, ep⟩ := List.any_eq_true.mp h
        have ep := of_decide_eq_true ep
        exact ⟨(p.1, v), List.mem_map.mpr ⟨p, hp, if_pos ep⟩, ep.trans e⟩
  · rw [List.any_append]; simp
theorem put0_some : ∀ (rs : List Rq) (l : List (Ky × Val)) (k : Ky), (look2 (put0 l rs) k).isSome = ((look2 l k).isSome || rs.any fun q => decide (q.1 = k))
  | [], l, k => by simp [put0]
  | r :: rs, l, k => by
    show (look2 (put0 (put2 l r.1 (.bool true)) rs) k).isSome = _
    rw [put0_some rs, look2_put_some, List.any_cons, Bool.or_assoc]
theorem look_pass {vals : List (Ky × Val)} (hv : VI vals) : ∀ (W : List (Id × List Rq)) (t : PS) (gr : List (Id × List Val)) (blk : List (Ky × Val)), SI2 t.S → (∀ a ∈ W, ∀ r ∈ a.2, WM r.2.1 ∧ amt r.1) → (∀ k, (look2 blk k).isSome = bkd t.L k) → gr = t.T.map (fun x => (x.1, x.2.map fV)) →
    SI2 (W.foldl (pstep vals) t).S ∧ ∃ b, W.foldl (lookS' vals) ⟨t.S.map gOf, t.E, gr, t.L, blk⟩ = ⟨(W.foldl (pstep vals) t).S.map gOf, (W.foldl (pstep vals) t).E, (W.foldl (pstep vals) t).T.map (fun x => (x.1, x.2.map fV)), (W.foldl (pstep vals) t).L, b⟩
  | [], t, gr, blk, hi, _, _, hg => ⟨hi, blk, by rw [hg]; rfl⟩
  | a :: W, t, gr, blk, hi, hw, hb, hg => by
    rw [List.foldl_cons, List.foldl_cons]
    have hw' : ∀ a ∈ W, ∀ r ∈ a.2, WM r.2.1 ∧ amt r.1 := fun z hz => hw z (List.mem_cons_of_mem _ hz)
    have hgo := grants_of (vals := vals) hi hb a.2 fun r hr => (hw a List.mem_cons_self r hr).1
    have hbl : ∀ k, (look2 (put0 blk a.2) k).isSome = bkd (t.L ++ [a]) k := fun k => by
      rw [put0_some, hb]; unfold bkd; rw [List.any_append]; simp
    have stay : mapO (grant1 vals (t.S.map gOf) blk) a.2 = none → pstep vals t a = { t with L := t.L ++ [a] } → SI2 (W.foldl (pstep vals) (pstep vals t a)).S ∧ ∃ b, W.foldl (lookS' vals) (lookS' vals ⟨t.S.map gOf, t.E, gr, t.L, blk⟩ a) = ⟨(W.foldl (pstep vals) (pstep vals t a)).S.map gOf, (W.foldl (pstep vals) (pstep vals t a)).E, (W.foldl (pstep vals) (pstep vals t a)).T.map (fun x => (x.1, x.2.map fV)), (W.foldl (pstep vals) (pstep vals t a)).L, b⟩ := fun e1 e2 => by
      have e3 : lookS' vals ⟨t.S.map gOf, t.E, gr, t.L, blk⟩ a = ⟨t.S.map gOf, t.E, gr, t.L ++ [a], put0 blk a.2⟩ := by
        unfold lookS'; rw [e1]
      rw [e3, e2]
      exact look_pass hv W { t with L := t.L ++ [a] } gr _ hi hw' hbl hg
    by_cases q : (t.L.any fun o => shares o a) = true
    · rw [if_pos (by rw [← any_shares]; exact q)] at hgo
      exact stay hgo (by unfold pstep; rw [if_pos q])
    · rw [if_neg (by rw [← any_shares]; exact q)] at hgo
      cases h : mapO (besideR vals t.S) a.2 with
      | none =>
        rw [h] at hgo
        exact stay hgo (by unfold pstep; rw [if_neg q, h])
      | some fd =>
        rw [h] at hgo
        have e2 : pstep vals t a = { t with S := t.S ++ [(a.1, a.2, fd)], E := t.E ++ [(true, a.1)], T := t.T ++ [(a.1, fd)] } := by
          unfold pstep; rw [if_neg q, h]
        have e3 : lookS' vals ⟨t.S.map gOf, t.E, gr, t.L, blk⟩ a = ⟨(t.S ++ [(a.1, a.2, fd)]).map gOf, t.E ++ [(true, a.1)], gr ++ [(a.1, fd.map fV)], t.L, blk⟩ := by
          unfold lookS'
          rw [hgo]
          show LS.mk _ _ _ _ _ = _
          rw [← ans_of hv (fun r hr => (hw a List.mem_cons_self r hr).2) h]
          simp [gOf]
        rw [e3, e2]
        refine look_pass hv W { t with S := t.S ++ [(a.1, a.2, fd)], E := t.E ++ [(true, a.1)], T := t.T ++ [(a.1, fd)] } _ blk (fun x hx => ?_) hw' hb (by rw [hg]; simp)
        rcases List.mem_append.mp hx with hx | hx
        · exact hi x hx
        · rw [List.mem_singleton.mp hx]; exact mapO_SK h

end L34

namespace L34
open Py
/-! ### comprehensions -/
theorem comp_t {α : Type} (enc : α → Val) (o : α → Option Val) {chk : Option (Nat × List Val)} {el : Val → Mem → Res (Option Val)} {M : Mem} (hst : still chk M) : ∀ {L : List α}, (∀ x ∈ L, el (enc x) M = .ok (o x) M) → compLoop chk el (L.map enc) M = .ok (L.filterMap o) M
  | [], _ => by rw [List.map_nil, compLoop, if_pos hst]; rfl
  | x :: L, h => by
    rw [List.map_cons, compLoop, if_pos hst, h x List.mem_cons_self]
    simp only [Res.bind]
    rw [comp_t enc o hst fun y hy => h y (List.mem_cons_of_mem _ hy)]
    cases q : o x <;> simp [List.filterMap_cons, q]
theorem comp_g {α : Type} (enc : α → Val) (o : α → Option Val) {chk : Option (Nat × List Val)} {el : Val → Mem → Res (Option Val)} {M : Mem} (hst : ∀ g, still chk (M ++ g)) : ∀ {L : List α} (g : Mem), (∀ x ∈ L, ∀ g, ∃ g', el (enc x) (M ++ g) = .ok (o x) (M ++ (g ++ g'))) → ∃ g', compLoop chk el (L.map enc) (M ++ g) = .ok (L.filterMap o) (M ++ g')
  | [], g, _ => ⟨g, by rw [List.map_nil, compLoop, if_pos (hst g)]; rfl⟩
  | x :: L, g, h => by
    obtain ⟨g1, e1⟩ := h x List.mem_cons_self g
    obtain ⟨g2, e2⟩ := comp_g enc o hst (g ++ g1) fun y hy => h y (List.mem_cons_of_mem _ hy)
    refine ⟨g2, ?_⟩
    rw [List.map_cons, compLoop, if_pos (hst g), e1]
    simp only [Res.bind]
    rw [e2]
    cases q : o x <;> simp [List.filterMap_cons, q]
theorem fm_some {α : Type} (f : α → Val) (L : List α) : (L.filterMap fun x => some (f x)) = L.map f := by rw [List.filterMap_eq_map']
theorem fm_if {α : Type} (f : α → Val) (p : α → Bool) : ∀ L : List α, (L.filterMap fun x => if p x = true then some (f x) else none) = (L.filter p).map f
  | [] => rfl
  | x :: L => by
    cases q : p x with
    | true => rw [List.filterMap_cons_some (b := f x) (by rw [if_pos q]), List.filter_cons_of_pos q, List.map_cons, fm_if f p L]
    | false => rw [List.filterMap_cons_none (by rw [if_neg (by rw [q]; decide)]), List.filter_cons_of_neg (by rw [q]; decide), fm_if f p L]
theorem any_ky (k : Ky) (ks : List Ky) : ((ks.map kyV).any fun z => z.eqv (kyV k)) = ks.any fun a => decide (a = k) := by
  rw [List.any_map]
  congr 1
  funext a
  exact ky_eqv a k
theorem mem_lky (k : Ky) (ks : List Ky) {m : Mem} {r : Nat} (h : m.list r = some (ks.map kyV)) : cmpop .mem (kyV k) (.ref r) m = some (ks.any fun a => decide (a = k)) := by
  show memop m (kyV k) (.ref r) = _
  have e1 : memop m (kyV k) (.ref r) = if (kyV k).dat && datL (ks.map kyV) then some ((ks.map kyV).any fun z => z.eqv (kyV k)) else none := by
    unfold kyV tkV memop
    simp only [get_of_list (show m.list r = some (ks.map fun k => .tup ((kyT k).map lv)) from h)]
  have e2 : datL (ks.map kyV) = true := datL_of fun x hx => by
    obtain ⟨y, _, e⟩ := List.mem_map.mp hx
    rw [← e, ky_dp]; exact ⟨ky_pl y, by decide⟩
  have e3 : (kyV k).dat = true := tk_dat _
  rw [e1, e2, e3, any_ky]; rfl
theorem askV_1 (x : Id × List Rq) (m : Mem) : idxop m (askV x) (.int 1) = some (grs x.2) := by show atIx _ 1 = _; rfl
theorem askV_0 (x : Id × List Rq) (m : Mem) : idxop m (askV x) (.int 0) = some (pv x.1) := by show atIx _ 0 = _; rfl
theorem grV_0 (x : Gr) (m : Mem) : idxop m (grV x) (.int 0) = some (kyV x.1) := by show atIx _ 0 = _; rfl
theorem grV_1 (x : Gr) (m : Mem) : idxop m (grV x) (.int 1) = some (.str x.2.1) := by show atIx _ 1 = _; rfl
theorem grV_2 (x : Gr) (m : Mem) : idxop m (grV x) (.int 2) = some (.int x.2.2) := by show atIx _ 2 = _; rfl
theorem seq_grs (xs : List Gr) (C : Calls) (e : E) (l : Loc) (m m1 : Mem) (h : evalE P C e l m = .ok (grs xs) m1) : evalI P C (.seq e) l m = .ok (xs.map grV, none) m1 := by
  rw [ev_evalI0, h]; rfl
end L34

namespace L34
open Py
/-! ### what stands, as the law keeps it -/
def sV (x : Sd) : Val := .tup [pv x.1, grs x.2.1, .tup (x.2.2.map fV)]
theorem sV_0 (z : Sd) (m : Mem) : idxop m (sV z) (.int 0) = some (pv z.1) := by show atIx _ 0 = _; rfl
theorem sV_1 (z : Sd) (m : Mem) : idxop m (sV z) (.int 1) = some (grs z.2.1) := by show atIx _ 1 = _; rfl
theorem sV_2 (z : Sd) (m : Mem) : idxop m (sV z) (.int 2) = some (.tup (z.2.2.map fV)) := by show atIx _ 2 = _; rfl
@[simp] theorem nV_under (kd : List Nat) (i : Int) (n : Nat) : (nV kd i).under n = true := by unfold nV; split <;> simp
@[simp] theorem fV_under (y : Fd) (n : Nat) : (fV y).under n = true := by unfold fV; simp
theorem maps_under {α : Type} (f : α → Val) (h : ∀ x n, (f x).under n = true) (l : List α) (n : Nat) : Val.underL n (l.map f) = true := underL_all fun x hx => by obtain ⟨y, _, e⟩ := List.mem_map.mp hx; rw [← e]; exact h _ _
def t1 (x : Sd) (k : Ky) : List Fd := (x.2.1.zip x.2.2).filterMap fun p => if p.1.1 = k then some p.2 else none
theorem thr_snoc (S : List Sd) (x : Sd) (k : Ky) : thr (S ++ [x]) k = thr S k ++ t1 x k := by unfold thr t1; rw [List.flatMap_append, List.flatMap_cons, List.flatMap_nil, List.append_nil]
theorem idx_tup (xs : List Val) (m : Mem) (k : Int) : idxop m (.tup xs) (.int k) = atIx xs k := rfl
def tV (x : Id × List Fd) : Val := .tup [pv x.1, .tup (x.2.map fV)]
@[simp] theorem tV_under (x : Id × List Fd) (n : Nat) : (tV x).under n = true := by
  unfold tV; simp; exact maps_under _ (fun x n => by simp) _ _
@[simp] theorem sV_under (x : Sd) (n : Nat) : (sV x).under n = true := by
  unfold sV; simp; exact maps_under _ (fun x n => by simp) _ _
theorem mem_lstr (nm : List Nat) (l : List (List Nat)) {m : Mem} {r : Nat} (h : m.list r = some (l.map .str)) : cmpop .mem (.str nm) (.ref r) m = some (decide (nm ∈ l)) := by
  show memop m (.str nm) (.ref r) = _
  unfold memop
  simp only [get_of_list h]
  rw [any_str, dat_str]
  unfold datL
  rw [pl_strs, dp_strs]; rfl
theorem nmem_lstr (nm : List Nat) (l : List (List Nat)) {m : Mem} {r : Nat} (h : m.list r = some (l.map .str)) : cmpop .nmem (.str nm) (.ref r) m = some (!decide (nm ∈ l)) := by
  have := mem_lstr nm l h
  show (memop m (.str nm) (.ref r)).map not = _
  rw [show memop m (.str nm) (.ref r) = _ from this]; rfl
abbrev sFree : List Nat := [102, 114, 101, 101]
abbrev sPurse : List Nat := [112, 117, 114, 115, 101]
theorem ky_1 (k : Ky) (m : Mem) : idxop m (kyV k) (.int 1) = some (.str k.2.1) := by
  show atIx _ 1 = _
  rw [at_nat (by decide) (by simp [kyT])]; rfl
theorem ky_0 (k : Ky) (m : Mem) : idxop m (kyV k) (.int 0) = some (.int k.1) := by
  show atIx _ 0 = _
  rw [at_nat (by decide) (by simp [kyT])]; rfl
theorem dgetD_vals {m : Mem} {vd : Nat} {vals : List (Ky × Val)} (hv : m[vd]? = some (.dict true (mp kyV id vals))) (vi : VI vals) {k : Ky} (am : amt k) : dgetDR (.ref vd) (kyV k) (.int 0) m = .ok (.int (vI vals k)) m := by
  unfold dgetDR
  simp only [dct_at hv]
  rw [if_pos (ky_put _), dlook_mp ky_eqv]
  have := vi.at am
  unfold valAt at this
  cases e : look2 vals k with
  | none =>
    rw [e] at this
    have h0 : firstV k.2.1 = .int 0 := by unfold firstV; rw [if_neg (fun z => am z.1)]
    rw [Option.getD_none, h0] at this
    injection this with h
    show Res.ok (Val.int 0) m = Res.ok (Val.int (vI vals k)) m
    rw [← h]
  | some w => rw [e] at this; rw [Option.getD_some] at this; subst this; rfl
theorem isDct_vals {m : Mem} {vd : Nat} {vals : List (Ky × Val)} (hv : m[vd]? = some (.dict true (mp kyV id vals))) (k : Res Val) : isDctR (.ref vd) m k = k := by unfold isDctR; simp only [dct_at hv]
def fr (k : Ky) : Prop := k.2.1 = sFree ∨ k.2.1 = sPurse

end L34

namespace L34
open Py
/-! ### the plain law: what is promised stays there -/
theorem look2_mid {κ α : Type} [DecidableEq κ] {A B : List (κ × α)} {k : κ} {v : α} (hA : ∀ p ∈ A, p.1 ≠ k) : look2 (A ++ (k, v) :: B) k = some v := by
  unfold look2
  rw [List.find?_append, List.find?_eq_none.mpr (fun p hp => by simpa using hA p hp)]
  rw [List.find?_cons_of_pos (by simp)]; rfl
theorem del2_mid {κ α : Type} [DecidableEq κ] {A B : List (κ × α)} {k : κ} {v : α} (hA : ∀ p ∈ A, p.1 ≠ k) (hB : ∀ p ∈ B, p.1 ≠ k) : del2 (A ++ (k, v) :: B) k = A ++ B := by
  unfold del2
  rw [List.filter_append, List.filter_cons_of_neg (by simp), List.filter_eq_self.mpr (fun p hp => by simpa using hA p hp), List.filter_eq_self.mpr (fun p hp => by simpa using hB p hp)]
theorem look2_put {κ α : Type} [DecidableEq κ] (l : List (κ × α)) (k : κ) (v : α) : look2 (put2 l k v) k = some v := by
  unfold put2
  split
  · rename_i h
    induction l with
    | nil => cases h
    | cons p l ih =>
      unfold look2 at ih ⊢
      rw [List.map_cons]
      by_cases e : p.1 = k
      · rw [if_pos e, List.find?_cons_of_pos (by simpa using e)]; rfl
      · rw [if_neg e, List.find?_cons_of_neg (by simpa using e)]
        rw [List.any_cons] at h
        exact ih (by simpa [e] using h)
  · rename_i h
    have hA : ∀ p ∈ l, p.1 ≠ k := fun p hp e => h (List.any_eq_true.mpr ⟨p, hp, decide_eq_true e⟩)
    exact look2_mid hA
theorem look2_put_ne {κ α : Type} [DecidableEq κ] (l : List (κ × α)) {k k' : κ} (v : α) (hk : k ≠ k') : look2 (put2 l k v) k' = look2 l k' := by
  unfold put2
  split
  · rename_i h0
    clear h0
    induction l with
    | nil => rfl
    | cons p l ih =>
      unfold look2 at ih ⊢
      rw [List.map_cons]
      by_cases e : p.1 = k
      · rw [if_pos e, List.find?_cons_of_neg (p := fun q : κ × α => decide (q.1 = k')) (fun z => hk (e.symm.trans (of_decide_eq_true z))), List.find?_cons_of_neg (p := fun q : κ × α => decide (q.1 = k')) (a := (p.1, v)) (fun z => hk (e.symm.trans (of_decide_eq_true z)))]; exact ih
      · rw [if_neg e]
        by_cases e2 : p.1 = k'
        · rw [List.find?_cons_of_pos (by simpa using e2), List.find?_cons_of_pos (by simpa using e2)]
        · rw [List.find?_cons_of_neg (by simpa using e2), List.find?_cons_of_neg (by simpa using e2)]; exact ih
  · unfold look2
    rw [List.find?_append]
    have : List.find? (fun p : κ × α => decide (p.1 = k')) [(k, v)] = none := by rw [List.find?_cons_of_neg (by simpa using hk)]; rfl
    rw [this, Option.or_none]
theorem vI_put (vals : List (Ky × Val)) (k k' : Ky) (n : Int) : vI (put2 vals k (.int n)) k' = if k = k' then n else vI vals k' := by
  unfold vI valAt
  by_cases e : k = k'
  · subst e; rw [look2_put, if_pos rfl]; rfl
  · rw [look2_put_ne vals _ e, if_neg e]
def tk1 (y : Fd) : Int := if y.1 = sAmple ∨ y.1 = sShort then y.2 else 0
def tsum (S : List Fd) : Int := (S.map tk1).sum
theorem tsum_app (S T : List Fd) : tsum (S ++ T) = tsum S + tsum T := by unfold tsum; rw [List.map_append, List.sum_append]
structure KI (v : Int) (S : List Fd) : Prop where
  s : tsum S ≤ v
  p : ∀ y ∈ S, 0 ≤ tk1 y
theorem KI.pos {v : Int} {S : List Fd} (h : ∀ y ∈ S, 0 ≤ tk1 y) : 0 ≤ tsum S := by
  unfold tsum
  induction S with
  | nil => decide
  | cons y S ih =>
    rw [List.map_cons, List.sum_cons]
    have h1 := ih fun z hz => h z (List.mem_cons_of_mem _ hz)
    have h2 := h y List.mem_cons_self
    omega
/-- a request and what it got -/
structure EO1 (r : Rq) (y : Fd) : Prop where
  see : r.2.1 = sSee → y.1 = sSee
  add : r.2.1 = sAdd → y.1 = sAdd
  take : r.2.1 = sTake → fr r.1 ∧ 0 ≤ y.2 ∧ ((y.1 = sAmple ∧ y.2 = r.2.2) ∨ (y.1 = sShort ∧ y.2 < r.2.2))
  wm : WM r.2.1
structure EO (x : Sd) : Prop where
  len : x.2.2.length = x.2.1.length
  e : ∀ p ∈ x.2.1.zip x.2.2, EO1 p.1 p.2
def Kv (vals : List (Ky × Val)) (S : List Sd) : Prop := ∀ k, fr k → KI (vI vals k) (thr S k)
theorem mapO_zip {α β : Type} {g : α → Option β} : ∀ {l : List α} {ys : List β}, mapO g l = some ys → ∀ p ∈ l.zip ys, g p.1 = some p.2
  | [], ys, _, p, hp => by cases hp
  | x :: l, ys, h, p, hp => by
    unfold mapO at h
    cases e : g x with
    | none => rw [e] at h; cases h
    | some y =>
      rw [e] at h
      obtain ⟨ys', e2, e3⟩ := Option.map_eq_some_iff.mp h
      subst e3
      rcases List.mem_cons.mp hp with q | q
      · rw [q]; exact e
      · exact mapO_zip e2 p q
structure RO (r : Rq) : Prop where
  wm : WM r.2.1
  tk : r.2.1 = sTake → fr r.1 ∧ 1 ≤ r.2.2
theorem beside_short {v w : Int} {mode : List Nat} {many : Int} (h : beside v [] mode many = some (sShort, w)) : w = v ∧ v < many := by
  unfold beside at h
  have a : sees [] = true := rfl
  have b : hard [] = false := rfl
  have c : asum [] = 0 := rfl
  split at h
  · try rw [if_pos a] at h
    injection h with h; injection h with h; exact absurd h (by decide)
  · split at h
    · try rw [if_neg (by rw [b]; decide)] at h
      injection h with h; injection h with h; exact absurd h (by decide)
    · split at h
      · injection h with h; injection h with h; exact absurd h (by decide)
      · rename_i q
        rw [if_pos rfl] at h; injection h with h; injection h with _ h
        refine ⟨h.symm, ?_⟩
        rw [c] at q
        exact Int.not_le.mp fun z => q ⟨b, by omega⟩
theorem eo1_of {v : Int} {S : List Fd} {r : Rq} {y : Fd} (ro : RO r) (hk : fr r.1 → KI v S) (h : beside v S r.2.1 r.2.2 = some y) : EO1 r y := by
  have n1 : sTake ≠ sSee := by decide
  have n2 : sTake ≠ sAdd := by decide
  have n3 : sAdd ≠ sSee := by decide
  rcases beside_kind h with ⟨e, a, b⟩ | ⟨e, a, b⟩ | ⟨e, a, b, c, d⟩ | ⟨e, a, b, c⟩ <;> subst e
  · exact ⟨fun _ => rfl, fun q => absurd (q.symm.trans a) n3, fun q => absurd (q.symm.trans a) n1, ro.wm⟩
  · exact ⟨fun q => absurd (a.symm.trans q) n3, fun _ => rfl, fun q => absurd (q.symm.trans a) n2, ro.wm⟩
  · refine ⟨fun q => absurd q a, fun q => absurd q b, fun q => ?_, ro.wm⟩
    obtain ⟨f1, f2⟩ := ro.tk q
    exact ⟨f1, by show 0 ≤ r.2.2; omega, .inl ⟨rfl, rfl⟩⟩
  · refine ⟨fun q => absurd q a, fun q => absurd q b, fun q => ?_, ro.wm⟩
    obtain ⟨f1, f2⟩ := ro.tk q
    subst c
    have := (beside_short h).2
    have k := (hk f1).s
    have z : tsum [] = 0 := rfl
    exact ⟨f1, by show 0 ≤ v; omega, .inr ⟨rfl, this⟩⟩
theorem tsum_soft {S : List Fd} (h : hard S = false) : tsum S = asum S := by
  unfold hard at h
  unfold tsum asum
  congr 1
  refine List.map_congr_left fun y hy => ?_
  have := (List.any_eq_false.mp h) y hy
  unfold tk1 am1
  by_cases q : y.1 = sAmple
  · rw [if_pos (.inl q), if_pos q]
  · rw [if_neg (fun z => ?_), if_neg q]
    rcases z with z | z
    · exact q z
    · simp [z] at this
theorem KI.grant {v : Int} {S : List Fd} {r : Rq} {y : Fd} (k : KI v S) (ro : RO r) (h : beside v S r.2.1 r.2.2 = some y) : KI v (S ++ [y]) := by
  have hs := tsum_app S [y]
  have h1 : tsum [y] = tk1 y := by unfold tsum; simp
  have h0 := k.s
  have hp := KI.pos (v := v) k.p
  have key : 0 ≤ tk1 y ∧ tsum S + tk1 y ≤ v := by
    rcases beside_kind h with ⟨e, a, b⟩ | ⟨e, a, b⟩ | ⟨e, a, b, c, d⟩ | ⟨e, a, b, c⟩ <;> subst e
    · have : tk1 (sSee, v) = 0 := by unfold tk1; rw [if_neg (show ¬ (sSee = sAmple ∨ sSee = sShort) by decide)]
      omega
    · have : tk1 (sAdd, 0) = 0 := by unfold tk1; rw [if_neg (show ¬ (sAdd = sAmple ∨ sAdd = sShort) by decide)]
      omega
    · have e : tk1 (sAmple, r.2.2) = r.2.2 := by unfold tk1; rw [if_pos (.inl rfl)]
      have t : r.2.1 = sTake := by rcases ro.wm with q | q | q; exact absurd q a; exact absurd q b; exact q
      have := (ro.tk t).2
      have := tsum_soft c
      omega
    · have e : tk1 (sShort, v) = v := by unfold tk1; rw [if_pos (.inr rfl)]
      subst c
      have z : tsum [] = 0 := rfl
      omega
  refine ⟨by omega, fun z hz => ?_⟩
  rcases List.mem_append.mp hz with hz | hz
  · exact k.p z hz
  · rw [List.mem_singleton.mp hz]; exact key.1
theorem t1_one {reqs : List Rq} : ∀ {fd : List Fd} (k : Ky), (reqs.map (·.1)).Nodup → ((reqs.zip fd).filterMap fun p => if p.1.1 = k then some p.2 else none) = [] ∨ ∃ p ∈ reqs.zip fd, p.1.1 = k ∧ ((reqs.zip fd).filterMap fun p => if p.1.1 = k then some p.2 else none) = [p.2] := by
  induction reqs with
  | nil => intro fd k _; exact .inl rfl
  | cons r rs ih =>
    intro fd k nd
    cases fd with
    | nil => exact .inl rfl
    | cons y ys =>
      rw [List.map_cons, List.nodup_cons] at nd
      have ih' := ih (fd := ys) k nd.2
      rw [List.zip_cons_cons]
      by_cases q : r.1 = k
      · rw [List.filterMap_cons_some (b := y) (by show (if r.1 = k then some y else none) = _; rw [if_pos q])]
        right
        refine ⟨(r, y), List.mem_cons_self, q, ?_⟩
        congr 1
        refine List.filterMap_eq_nil_iff.mpr fun p hp => ?_
        rw [if_neg fun e => nd.1 (List.mem_map.mpr ⟨p.1, (List.of_mem_zip hp).1, e.trans q.symm⟩)]
      · rw [List.filterMap_cons_none (by show (if r.1 = k then some y else none) = _; rw [if_neg q])]
        rcases ih' with e | ⟨p, hp, h1, h2⟩
        · exact .inl e
        · exact .inr ⟨p, List.mem_cons_of_mem _ hp, h1, h2⟩
theorem Kv.grant {vals : List (Ky × Val)} {S : List Sd} (K : Kv vals S) {i : Id} {reqs : List Rq} {fd : List Fd} (nd : (reqs.map (·.1)).Nodup) (ro : ∀ r ∈ reqs, RO r) (h : mapO (besideR vals S) reqs = some fd) : EO (i, reqs, fd) ∧ Kv vals (S ++ [(i, reqs, fd)]) := by
  have z := mapO_zip h
  refine ⟨⟨mapO_len h, fun p hp => ?_⟩, fun k hk => ?_⟩
  · exact eo1_of (ro _ (List.of_mem_zip hp).1) (fun f => K _ f) (z p hp)
  · rw [thr_snoc]
    unfold t1
    rcases t1_one (fd := fd) k nd with e | ⟨p, hp, h1, h2⟩
    · show KI _ (_ ++ ((reqs.zip fd).filterMap fun p => if p.1.1 = k then some p.2 else none))
      rw [e, List.append_nil]; exact K k hk
    · show KI _ (_ ++ ((reqs.zip fd).filterMap fun p => if p.1.1 = k then some p.2 else none))
      rw [h2]
      have hb := z p hp
      unfold besideR at hb
      rw [h1] at hb
      exact (K k hk).grant (ro _ (List.of_mem_zip hp).1) hb
/-- what the law reckons as promised -/
def prA (k : Ky) (p : Rq × Fd) : Int := if p.1.1 = k ∧ p.1.2.1 = sTake ∧ p.2.2 = p.1.2.2 then p.2.2 else 0
def promF (S : List Sd) (k : Ky) : Int := (S.map fun x => ((x.2.1.zip x.2.2).map (prA k)).sum).sum
theorem prom_le {k : Ky} : ∀ {S : List Sd}, (∀ x ∈ S, EO x) → (∀ y ∈ thr S k, 0 ≤ tk1 y) → promF S k ≤ tsum (thr S k)
  | [], _, _ => Int.le_refl _
  | x :: S, he, hp => by
    have e1 : thr (x :: S) k = t1 x k ++ thr S k := by unfold thr t1; rw [List.flatMap_cons]
    rw [e1] at hp ⊢
    have ih := prom_le (k := k) (S := S) (fun z hz => he z (List.mem_cons_of_mem _ hz)) fun y hy => hp y (List.mem_append_right _ hy)
    rw [tsum_app]
    have hx := (he x List.mem_cons_self).e
    have h1 : ∀ (L : List (Rq × Fd)), (∀ p ∈ L, EO1 p.1 p.2) → (∀ y ∈ (L.filterMap fun p => if p.1.1 = k then some p.2 else none), 0 ≤ tk1 y) → (L.map (prA k)).sum ≤ tsum (L.filterMap fun p => if p.1.1 = k then some p.2 else none) := by
      intro L
      induction L with
      | nil => intro _ _; exact Int.le_refl _
      | cons p L ih2 =>
        intro h3 h4
        rw [List.map_cons, List.sum_cons]
        by_cases q : p.1.1 = k
        · rw [List.filterMap_cons_some (b := p.2) (by show (if p.1.1 = k then some p.2 else none) = _; rw [if_pos q])] at h4 ⊢
          have h5 := ih2 (fun z hz => h3 z (List.mem_cons_of_mem _ hz)) fun y hy => h4 y (List.mem_cons_of_mem _ hy)
          have h6 := h4 p.2 List.mem_cons_self
          have e := h3 p List.mem_cons_self
          have : tsum (p.2 :: L.filterMap fun p => if p.1.1 = k then some p.2 else none) = tk1 p.2 + tsum (L.filterMap fun p => if p.1.1 = k then some p.2 else none) := by unfold tsum; rw [List.map_cons, List.sum_cons]
          rw [this]
          have : prA k p ≤ tk1 p.2 := by
            unfold prA
            by_cases c : p.1.1 = k ∧ p.1.2.1 = sTake ∧ p.2.2 = p.1.2.2
            · rw [if_pos c]
              obtain ⟨_, _, t⟩ := e.take c.2.1
              rcases t with ⟨t1, t2⟩ | ⟨t1, t2⟩
              · unfold tk1; rw [if_pos (.inl t1)]; exact Int.le_refl _
              · omega
            · rw [if_neg c]; exact h6
          omega
        · rw [List.filterMap_cons_none (by show (if p.1.1 = k then some p.2 else none) = _; rw [if_neg q])] at h4 ⊢
          have h5 := ih2 (fun z hz => h3 z (List.mem_cons_of_mem _ hz)) h4
          have : prA k p = 0 := by unfold prA; rw [if_neg fun z => q z.1]
          omega
    have h7 := h1 (x.2.1.zip x.2.2) hx fun y hy => hp y (List.mem_append_left _ hy)
    have e2 : promF (x :: S) k = ((x.2.1.zip x.2.2).map (prA k)).sum + promF S k := by unfold promF; rw [List.map_cons, List.sum_cons]
    rw [e2]
    have : tsum (t1 x k) = tsum ((x.2.1.zip x.2.2).filterMap fun p => if p.1.1 = k then some p.2 else none) := rfl
    omega
theorem Kv.prom {vals : List (Ky × Val)} {S : List Sd} (K : Kv vals S) (he : ∀ x ∈ S, EO x) {k : Ky} (hk : fr k) : promF S k ≤ vI vals k := by
  have h := K k hk
  have := prom_le (k := k) he h.p
  have := h.s
  omega
theorem thr_app (A B : List Sd) (k : Ky) : thr (A ++ B) k = thr A k ++ thr B k := by unfold thr; rw [List.flatMap_append]
theorem Kv.end {vals vals' : List (Ky × Val)} {A B : List Sd} {x : Sd} (K : Kv vals (A ++ x :: B)) (h : ∀ k, fr k → vI vals k - tsum (t1 x k) ≤ vI vals' k) : Kv vals' (A ++ B) := fun k hk => by
  have q := K k hk
  have e : thr (A ++ x :: B) k = thr A k ++ (t1 x k ++ thr B k) := by
    rw [thr_app]; congr 1
  rw [e] at q
  have hs := q.s
  rw [tsum_app, tsum_app] at hs
  refine ⟨?_, fun y hy => ?_⟩
  · rw [thr_app, tsum_app]
    have := h k hk
    omega
  · rw [thr_app] at hy
    rcases List.mem_append.mp hy with hy | hy
    · exact q.p y (List.mem_append_left _ hy)
    · exact q.p y (List.mem_append_right _ (List.mem_append_right _ hy))

end L34

namespace L34
open Py
theorem pstep_sz (vals : List (Ky × Val)) (t : PS) (a : Id × List Rq) : (pstep vals t a).T.length ≤ t.T.length + 1 ∧ (pstep vals t a).L.length ≤ t.L.length + 1 ∧ (pstep vals t a).E.length ≤ t.E.length + 1 ∧ ∀ o ∈ (pstep vals t a).L, o ∈ t.L ∨ o = a := by
  have st : ({ t with L := t.L ++ [a] } : PS).T.length ≤ t.T.length + 1 ∧ ({ t with L := t.L ++ [a] } : PS).L.length ≤ t.L.length + 1 ∧ ({ t with L := t.L ++ [a] } : PS).E.length ≤ t.E.length + 1 ∧ ∀ o ∈ ({ t with L := t.L ++ [a] } : PS).L, o ∈ t.L ∨ o = a := by
    refine ⟨Nat.le_succ _, by simp, Nat.le_succ _, fun o ho => ?_⟩
    rcases List.mem_append.mp ho with h | h
    · exact .inl h
    · exact .inr (List.mem_singleton.mp h)
  unfold pstep
  split
  · exact st
  · split
    · exact st
    · exact ⟨by simp, Nat.le_succ _, by simp, fun o ho => .inl ho⟩
theorem pass_sz (vals : List (Ky × Val)) : ∀ (W : List (Id × List Rq)) (t : PS), (W.foldl (pstep vals) t).T.length ≤ t.T.length + W.length ∧ (W.foldl (pstep vals) t).L.length ≤ t.L.length + W.length ∧ (W.foldl (pstep vals) t).E.length ≤ t.E.length + W.length ∧ ∀ o ∈ (W.foldl (pstep vals) t).L, o ∈ t.L ∨ o ∈ W
  | [], t => ⟨Nat.le_refl _, Nat.le_refl _, Nat.le_refl _, fun o h => .inl h⟩
  | a :: W, t => by
    obtain ⟨h1, h2, h3, h4⟩ := pass_sz vals W (pstep vals t a)
    obtain ⟨g1, g2, g3, g4⟩ := pstep_sz vals t a
    rw [List.foldl_cons, List.length_cons]
    refine ⟨by omega, by omega, by omega, fun o ho => ?_⟩
    rcases h4 o ho with h | h
    · rcases g4 o h with h | h
      · exact .inl h
      · exact .inr (by rw [h]; exact List.mem_cons_self)
    · exact .inr (List.mem_cons_of_mem _ h)
theorem pass_W {vals : List (Ky × Val)} {S : List Sd} {E : List (Bool × Id)} {W : List (Id × List Rq)} : ∀ o ∈ (pass vals S E W).L, o ∈ W := fun o ho => by
  rcases (pass_sz vals W ⟨S, E, [], []⟩).2.2.2 o ho with h | h
  · cases h
  · exact h
theorem pass_T (vals : List (Ky × Val)) : ∀ (W : List (Id × List Rq)) (t : PS), (∀ x ∈ t.T, x.2.length < 1000) → (∀ a ∈ W, a.2.length < 1000) → ∀ x ∈ (W.foldl (pstep vals) t).T, x.2.length < 1000
  | [], t, h, _ => h
  | a :: W, t, h, hw => by
    rw [List.foldl_cons]
    refine pass_T vals W _ (fun x hx => ?_) fun z hz => hw z (List.mem_cons_of_mem _ hz)
    unfold pstep at hx
    split at hx
    · exact h x hx
    · split at hx
      · exact h x hx
      · rename_i fd e
        rcases List.mem_append.mp hx with hx | hx
        · exact h x hx
        · rw [List.mem_singleton.mp hx]
          show fd.length < 1000
          rw [mapO_len e]; exact hw a List.mem_cons_self
/-- all ids stay, in their order -/
theorem pass_perm (vals : List (Ky × Val)) : ∀ (W : List (Id × List Rq)) (t : PS), ((W.foldl (pstep vals) t).L.map (·.1) ++ (W.foldl (pstep vals) t).S.map (·.1)).Perm (t.L.map (·.1) ++ t.S.map (·.1) ++ W.map (·.1)) ∧
    (∀ q ∈ (W.foldl (pstep vals) t).E, q ∈ t.E ∨ q.2 ∈ W.map (·.1)) ∧ (W.foldl (pstep vals) t).E.length + (W.foldl (pstep vals) t).L.length ≤ t.E.length + t.L.length + W.length ∧ (∀ x ∈ (W.foldl (pstep vals) t).S, x ∈ t.S ∨ ∃ a ∈ W, x.2.1 = a.2)
  | [], t => ⟨by simp, fun q hq => .inl hq, by simp, fun x hx => .inl hx⟩
  | a :: W, t => by
    rw [List.foldl_cons]
    obtain ⟨h1, h2, h3, h4⟩ := pass_perm vals W (pstep vals t a)
    have stay : (({ t with L := t.L ++ [a] } : PS).L.map (·.1) ++ ({ t with L := t.L ++ [a] } : PS).S.map (·.1)).Perm (t.L.map (·.1) ++ t.S.map (·.1) ++ [a.1]) := by
      show ((t.L ++ [a]).map (·.1) ++ t.S.map (·.1)).Perm _
      rw [List.map_append, List.append_assoc, List.append_assoc]
      exact List.Perm.append_left _ (List.perm_append_comm)
    have st : ((pstep vals t a).L.map (·.1) ++ (pstep vals t a).S.map (·.1)).Perm (t.L.map (·.1) ++ t.S.map (·.1) ++ [a.1]) ∧ (∀ q ∈ (pstep vals t a).E, q ∈ t.E ∨ q.2 = a.1) ∧ (pstep vals t a).E.length + (pstep vals t a).L.length ≤ t.E.length + t.L.length + 1 ∧ (∀ x ∈ (pstep vals t a).S, x ∈ t.S ∨ x.2.1 = a.2) := by
      unfold pstep
      split
      · exact ⟨stay, fun q hq => .inl hq, by simp; omega, fun x hx => .inl hx⟩
      · split
        · exact ⟨stay, fun q hq => .inl hq, by simp; omega, fun x hx => .inl hx⟩
        · refine ⟨by simp, fun q hq => ?_, by simp; omega, fun x hx => ?_⟩
          · rcases List.mem_append.mp hq with h | h
            · exact .inl h
            · rw [List.mem_singleton.mp h]; exact .inr rfl
          · rcases List.mem_append.mp hx with h | h
            · exact .inl h
            · rw [List.mem_singleton.mp h]; exact .inr rfl
    refine ⟨h1.trans ?_, fun q hq => ?_, ?_, fun x hx => ?_⟩
    · refine (List.Perm.append_right _ st.1).trans ?_
      rw [List.append_assoc]; exact List.Perm.refl _
    · rcases h2 q hq with h | h
      · rcases st.2.1 q h with h | h
        · exact .inl h
        · exact .inr (by rw [h]; exact List.mem_cons_self)
      · exact .inr (List.mem_cons_of_mem _ h)
    · have := st.2.2.1; rw [List.length_cons]; omega
    · rcases h4 x hx with h | ⟨b, hb, e⟩
      · rcases st.2.2.2 x h with h | h
        · exact .inl h
        · exact .inr ⟨a, List.mem_cons_self, h⟩
      · exact .inr ⟨b, List.mem_cons_of_mem _ hb, e⟩
structure Idz (step : Int) (i : Nat) (W : List (Id × List Rq)) (ids : List Id) (E : List (Bool × Id)) (vl : Nat) : Prop where
  lt : ∀ p ∈ W.map (·.1) ++ ids, ∃ j : Int, 0 ≤ j ∧ j < i ∧ p = idOf step j
  nd : (W.map (·.1) ++ ids).Nodup
  en : ∀ q ∈ E, ∃ j : Int, 0 ≤ j ∧ j < i ∧ q.2 = idOf step j
  z1 : W.length + ids.length ≤ i
  z2 : E.length + W.length ≤ i
  z3 : vl ≤ 100 + 40 * i
theorem Idz.pass {step : Int} {i : Nat} {W : List (Id × List Rq)} {S : List Sd} {E : List (Bool × Id)} {vl : Nat} (h : Idz step i W (S.map (·.1)) E vl) (vals : List (Ky × Val)) : Idz step i (pass vals S E W).L ((pass vals S E W).S.map (·.1)) (pass vals S E W).E vl := by
  obtain ⟨h1, h2, h3, _⟩ := pass_perm vals W ⟨S, E, [], []⟩
  have h1 : ((L34.pass vals S E W).L.map (·.1) ++ (L34.pass vals S E W).S.map (·.1)).Perm (W.map (·.1) ++ S.map (·.1)) := by
    refine h1.trans ?_
    show (([] : List (Id × List Rq)).map (·.1) ++ S.map (·.1) ++ W.map (·.1)).Perm _
    rw [List.map_nil, List.nil_append]; exact List.perm_append_comm
  have h2 : ∀ q ∈ (L34.pass vals S E W).E, q ∈ E ∨ q.2 ∈ W.map (·.1) := h2
  have h3 : (L34.pass vals S E W).E.length + (L34.pass vals S E W).L.length ≤ E.length + 0 + W.length := h3
  have hl := h1.length_eq
  simp only [List.length_append, List.length_map] at hl
  generalize L34.pass vals S E W = t at *
  refine ⟨fun p hp => h.lt p (h1.mem_iff.mp hp), h1.nodup_iff.mpr h.nd, fun q hq => ?_, ?_, ?_, h.z3⟩
  · rcases h2 q hq with z | z
    · exact h.en q z
    · exact h.lt q.2 (List.mem_append_left _ z)
  · have := h.z1; simp only [List.length_map] at this ⊢; omega
  · have := h.z2; omega
/-- the told pairs, one after the other: each takes its ask out of the waiting ones -/
inductive GOk : List (Id × List Rq) → List Sd → List (Id × List Fd) → List (Id × List Rq) → List Sd → Prop
  | nil {W : List (Id × List Rq)} {S : List Sd} : GOk W S [] W S
  | cons {A B : List (Id × List Rq)} {S : List Sd} {i : Id} {reqs : List Rq} {fd : List Fd} {T : List (Id × List Fd)} {Wf : List (Id × List Rq)} {Sf : List Sd} (hA : ∀ p ∈ A, p.1 ≠ i) (hB : ∀ p ∈ B, p.1 ≠ i) (e : EO (i, reqs, fd)) (h : GOk (A ++ B) (S ++ [(i, reqs, fd)]) T Wf Sf) : GOk (A ++ (i, reqs) :: B) S ((i, fd) :: T) Wf Sf
theorem GOk.of {W W' Wf Wf' : List (Id × List Rq)} {S Sf : List Sd} {T : List (Id × List Fd)} (h : GOk W S T Wf Sf) (e : W = W') (e' : Wf = Wf') : GOk W' S T Wf' Sf := by subst e e'; exact h
structure WA (a : Id × List Rq) : Prop where
  nd : (a.2.map (·.1)).Nodup
  ro : ∀ r ∈ a.2, RO r
theorem pass_ok {vals : List (Ky × Val)} : ∀ (W : List (Id × List Rq)) (t : PS), ((t.L ++ W).map (·.1)).Nodup → Kv vals t.S → (∀ x ∈ t.S, EO x) → (∀ a ∈ W, WA a) →
    ∃ T, (W.foldl (pstep vals) t).T = t.T ++ T ∧ GOk (t.L ++ W) t.S T (W.foldl (pstep vals) t).L (W.foldl (pstep vals) t).S ∧ Kv vals (W.foldl (pstep vals) t).S ∧ ∀ x ∈ (W.foldl (pstep vals) t).S, EO x
  | [], t, _, K, he, _ => ⟨[], by simp, by rw [List.append_nil]; exact .nil, K, he⟩
  | a :: W, t, nd, K, he, hw => by
    rw [List.foldl_cons]
    have hw' : ∀ a ∈ W, WA a := fun z hz => hw z (List.mem_cons_of_mem _ hz)
    have stay : pstep vals t a = { t with L := t.L ++ [a] } → ∃ T, (W.foldl (pstep vals) (pstep vals t a)).T = t.T ++ T ∧ GOk (t.L ++ a :: W) t.S T (W.foldl (pstep vals) (pstep vals t a)).L (W.foldl (pstep vals) (pstep vals t a)).S ∧ Kv vals (W.foldl (pstep vals) (pstep vals t a)).S ∧ ∀ x ∈ (W.foldl (pstep vals) (pstep vals t a)).S, EO x := fun e => by
      rw [e]
      obtain ⟨T, h1, h2, h3, h4⟩ := pass_ok (vals := vals) W { t with L := t.L ++ [a] } (by show ((t.L ++ [a] ++ W).map (·.1)).Nodup; rw [List.append_assoc]; exact nd) K he hw'
      exact ⟨T, h1, h2.of (by simp) rfl, h3, h4⟩
    by_cases q : (t.L.any fun o => shares o a) = true
    · exact stay (by unfold pstep; rw [if_pos q])
    · cases h : mapO (besideR vals t.S) a.2 with
      | none => exact stay (by unfold pstep; rw [if_neg q, h])
      | some fd =>
        have e : pstep vals t a = { t with S := t.S ++ [(a.1, a.2, fd)], E := t.E ++ [(true, a.1)], T := t.T ++ [(a.1, fd)] } := by
          unfold pstep; rw [if_neg q, h]
        obtain ⟨g1, g2⟩ := K.grant (i := a.1) (hw a List.mem_cons_self).nd (hw a List.mem_cons_self).ro h
        rw [List.map_append, List.map_cons] at nd
        have pm : (t.L.map (·.1) ++ a.1 :: W.map (·.1)).Perm (a.1 :: (t.L.map (·.1) ++ W.map (·.1))) := List.perm_middle
        have nd2 := List.nodup_cons.mp (pm.nodup_iff.mp nd)
        obtain ⟨T, h1, h2, h3, h4⟩ := pass_ok (vals := vals) W { t with S := t.S ++ [(a.1, a.2, fd)], E := t.E ++ [(true, a.1)], T := t.T ++ [(a.1, fd)] } (by show ((t.L ++ W).map (·.1)).Nodup; rw [List.map_append]; exact nd2.2) g2 (fun x hx => by
          rcases List.mem_append.mp hx with hx | hx
          · exact he x hx
          · rw [List.mem_singleton.mp hx]; exact g1) hw'
        rw [e]
        refine ⟨(a.1, fd) :: T, by rw [h1]; simp, .cons (reqs := a.2) (fun p hp ep => nd2.1 (List.mem_append_left _ (List.mem_map.mpr ⟨p, hp, ep⟩))) (fun p hp ep => nd2.1 (List.mem_append_right _ (List.mem_map.mpr ⟨p, hp, ep⟩))) g1 h2, h3, h4⟩
theorem mapO_nil {vals : List (Ky × Val)} : ∀ reqs : List Rq, ∃ fd, mapO (besideR vals []) reqs = some fd
  | [] => ⟨[], rfl⟩
  | r :: rs => by
    obtain ⟨fd, e⟩ := mapO_nil (vals := vals) rs
    have : ∃ y, besideR vals [] r = some y := by
      unfold besideR
      show ∃ y, beside (vI vals r.1) [] r.2.1 r.2.2 = some y
      have a : sees [] = true := rfl
      have b : hard [] = false := rfl
      unfold beside
      split
      · exact ⟨_, rfl⟩
      · split
        · exact ⟨_, rfl⟩
        · split
          · exact ⟨_, rfl⟩
          · exact ⟨_, rfl⟩
    obtain ⟨y, ey⟩ := this
    exact ⟨y :: fd, by unfold mapO; rw [ey, e]; rfl⟩
theorem pass_stands {vals : List (Ky × Val)} : ∀ (W : List (Id × List Rq)) (t : PS), (t.S = [] → t.L = []) → (W.foldl (pstep vals) t).S = [] → (W.foldl (pstep vals) t).L = []
  | [], t, h => h
  | a :: W, t, h => by
    rw [List.foldl_cons]
    refine pass_stands W _ fun hs => ?_
    by_cases q : t.S = []
    · exfalso
      have hl := h q
      obtain ⟨fd, e⟩ := mapO_nil (vals := vals) a.2
      unfold pstep at hs
      rw [if_neg (by rw [hl]; exact (fun z => by cases z)), q, e] at hs
      simp at hs
    · exfalso
      unfold pstep at hs
      split at hs
      · exact q hs
      · split at hs
        · exact q hs
        · simp at hs

end L34

namespace L34
open Py
/-! ### the law looks at what was told -/
theorem run_isnum (d : Nat) (m : Mem) {n : Int} (h : 0 ≤ n) : callN P (d + 1) "_law_is_number" [.int n] m = .ok (.bool true) m := by
  rw [callN_fn e__law_is_number rfl]
  have ex : execB P (callN P d) f__law_is_number.body (start f__law_is_number.ns [.int n]) m = .ret (.bool true) m := by
    simp [f__law_is_number, start, tyOf, isiK, h]
  rw [ex]
  exact gc_same (by simp)
theorem gc_len {m m' : Mem} {v : Val} (hl : m'.length = m.length) (hv : v.under m.length = true) : gc m (.ok v m') = .ok v m' := by
  unfold gc
  simp only
  have e : m'.take m.length = m' := List.take_of_length_le (by omega)
  split
  · first | (rw [if_pos hv, e]) | (simp only [e])
  · rfl
theorem fV_add {y : Fd} (h : y.1 = sAdd) : fV y = .none := by unfold fV nV; rw [if_pos h]
theorem fV_int {y : Fd} (h : y.1 ≠ sAdd) : fV y = .int y.2 := by unfold fV nV; rw [if_neg h]
theorem EO1.tk {r : Rq} {y : Fd} (e : EO1 r y) (h : r.2.1 = sTake) : fV y = .int y.2 ∧ 0 ≤ y.2 ∧ y.2 ≤ r.2.2 := by
  obtain ⟨_, a, b⟩ := e.take h
  rcases b with ⟨b, c⟩ | ⟨b, c⟩
  · exact ⟨fV_int (by rw [b]; decide), a, by omega⟩
  · exact ⟨fV_int (by rw [b]; decide), a, by omega⟩
theorem grs_at {reqs : List Rq} {i : Nat} {r : Rq} (h : reqs[i]? = some r) (hl : i < 100000) (m : Mem) {ii : Int} (ei : ii = i) : idxop m (grs reqs) (.int ii) = some (grV r) := by
  unfold grs
  have h0 := (List.getElem?_eq_some_iff.mp h)
  obtain ⟨hi, e⟩ := h0
  rw [idx_tup, at_nat (by omega) (by rw [List.length_map]; omega)]
  have : ii.toNat = i := by omega
  simp only [this, List.getElem_map]
  rw [e]
theorem fvs_at {fd : List Fd} {i : Nat} {y : Fd} (h : fd[i]? = some y) (m : Mem) {ii : Int} (ei : ii = i) : idxop m (.tup (fd.map fV)) (.int ii) = some (fV y) := by
  obtain ⟨hi, e⟩ := (List.getElem?_eq_some_iff.mp h)
  rw [idx_tup, at_nat (by omega) (by rw [List.length_map]; omega)]
  have : ii.toNat = i := by omega
  simp only [this, List.getElem_map]
  rw [e]
theorem gr_inner (d : Nat) (m : Mem) {x : Sd} (he : EO x) (hl : x.2.1.length < 10000) (TV : Val) (htv : ∀ M, idxop M TV (.int 1) = some (.tup (x.2.2.map fV))) (x0 x1 x2 x5 : Option Val) :
    ∃ y5, execS P (callN P (d + 1)) (.fr (.name 5) (.range1 (.blt .len [(.var 4)])) b__law_granted_1) [x0, x1, x2, some TV, some (grs x.2.1), x5] m = .nx [x0, x1, x2, some TV, some (grs x.2.1), y5] m := by
  obtain ⟨n, en⟩ : ∃ n : Int, n = x.2.1.length := ⟨_, rfl⟩
  obtain ⟨l', m', el, _, y5, el1, em1⟩ := for_all (chk := none) (t := .name 5) (b := execB P (callN P (d + 1)) b__law_granted_1) (xs := (List.range n.toNat).map fun (i : Nat) => .int i)
    (fun i l m' => i ≤ x.2.1.length ∧ ∃ y5, l = [x0, x1, x2, some TV, some (grs x.2.1), y5] ∧ m' = m)
    (fun _ _ _ _ => still_none _) (fun i v l m' hx hi => by
      obtain ⟨hin, ex⟩ := rng_get hx
      obtain ⟨_, y5, e1, e2⟩ := hi
      subst e1 e2 ex
      have hi1 : i < x.2.1.length := by omega
      obtain ⟨rq, hrq⟩ : ∃ rq, x.2.1[i]? = some rq := ⟨_, List.getElem?_eq_getElem hi1⟩
      obtain ⟨y, hy⟩ : ∃ y, x.2.2[i]? = some y := ⟨_, List.getElem?_eq_getElem (by rw [he.len]; exact hi1)⟩
      have hzip : (x.2.1.zip x.2.2)[i]? = some (rq, y) := List.getElem?_zip_eq_some.mpr ⟨hrq, hy⟩
      have e := he.e _ (List.mem_of_getElem? hzip)
      obtain ⟨ii, eii⟩ : ∃ ii : Int, ii = (i : Int) := ⟨_, rfl⟩
      have g1 := fun M => grs_at hrq (by omega) M eii
      have g3 := fun M => fvs_at hy M eii
      have q1 := fun M => grV_1 rq M
      have q2 := fun M => grV_2 rq M
      have s1 : ∀ M, cmpop .eq (.str rq.2.1) (.str [97, 100, 100]) M = some (decide (rq.2.1 = sAdd)) := fun M => eq_str _ _ M
      have s2 : ∀ M, cmpop .eq (.str rq.2.1) (.str [116, 97, 107, 101]) M = some (decide (rq.2.1 = sTake)) := fun M => eq_str _ _ M
      refine ⟨_, asg_name _ _ _ _, ?_⟩
      rw [← eii]
      have ex : execB P (callN P (d + 1)) b__law_granted_1 ([x0, x1, x2, some TV, some (grs x.2.1), y5].set 5 (some (.int ii))) m' = .nx [x0, x1, x2, some TV, some (grs x.2.1), some (.int ii)] m' := by
        by_cases a : rq.2.1 = sAdd
        · have t : ¬ rq.2.1 = sTake := by rw [a]; decide
          rw [decide_eq_true a] at s1
          rw [decide_eq_false t] at s2
          have ef := fV_add (e.add a)
          rw [ef] at g3
          generalize grs x.2.1 = RS at *
          generalize grV rq = GV at *
          generalize Val.tup (x.2.2.map fV) = FS at *
          have nn : ∀ M, cmpop .notn .none .none M = some false := fun M => rfl
          simp [b__law_granted_1, g1, q1, s1, htv, g3, nn, s2]
        · rw [decide_eq_false a] at s1
          by_cases t : rq.2.1 = sTake
          · rw [decide_eq_true t] at s2
            obtain ⟨ef, p0, p1⟩ := e.tk t
            rw [ef] at g3
            have rn := run_isnum d m' p0
            generalize grs x.2.1 = RS at *
            generalize grV rq = GV at *
            generalize Val.tup (x.2.2.map fV) = FS at *
            simp [b__law_granted_1, g1, q1, q2, s1, htv, g3, s2, rn, p1]
          · rw [decide_eq_false t] at s2
            generalize grs x.2.1 = RS at *
            generalize grV rq = GV at *
            generalize Val.tup (x.2.2.map fV) = FS at *
            simp [b__law_granted_1, g1, q1, s1, s2]
      refine Flow.by ex ?_
      exact Flow.nx_of ⟨hi1, _, rfl, rfl⟩) (l := [x0, x1, x2, some TV, some (grs x.2.1), x5]) (m := m) ⟨Nat.zero_le _, x5, rfl, rfl⟩
  subst el1 em1
  have lg : bltop .len [grs x.2.1] m' = .ok (.int n) m' := by unfold grs; rw [len_tup, List.length_map, en]
  have gI : ∀ (m : Mem) (v : Int), gc m (.ok (.int v) m) = .ok (.int v) m := fun m v => gc_same (by simp)
  have hj : -4611686018427387904 ≤ n ∧ n < 4611686018427387904 := by omega
  refine ⟨y5, ?_⟩
  generalize grs x.2.1 = RS at *
  simp [lg, gI, hj, el]
/-- the asked ones and the standing ones -/
def gm (m : Mem) (ak sg : Nat) (W : List (Id × List Rq)) (S : List Sd) : Mem := (m.set ak (.dict true (mp pv grs W))).set sg (.list (S.map sV))
theorem gm_len (m : Mem) (ak sg : Nat) (W : List (Id × List Rq)) (S : List Sd) : (gm m ak sg W S).length = m.length := by unfold gm; simp
section
variable {m : Mem} {ak sg : Nat} {W W' : List (Id × List Rq)} {S S' : List Sd}
theorem gm_ak (h : ak < m.length) (n : ak ≠ sg) : (gm m ak sg W S)[ak]? = some (.dict true (mp pv grs W)) := by
  unfold gm; rw [List.getElem?_set_ne n.symm, List.getElem?_set_self h]
theorem gm_sg (h : sg < m.length) : (gm m ak sg W S).list sg = some (S.map sV) := by
  unfold gm; exact list_set_self (by simpa using h)
theorem gm_set_ak (n : ak ≠ sg) : (gm m ak sg W S).set ak (.dict true (mp pv grs W')) = gm m ak sg W' S := by
  unfold gm; rw [List.set_comm _ _ n.symm, List.set_set]
theorem gm_set_sg : (gm m ak sg W S).set sg (.list (S'.map sV)) = gm m ak sg W S' := by
  unfold gm; rw [List.set_set]
theorem gm_self (h1 : m[ak]? = some (.dict true (mp pv grs W))) (h2 : m.list sg = some (S.map sV)) : gm m ak sg W S = m := by
  unfold gm
  have e1 : m.set ak (.dict true (mp pv grs W)) = m := by
    obtain ⟨hl, q⟩ := List.getElem?_eq_some_iff.mp h1
    rw [← q, List.set_getElem_self]
  rw [e1]
  obtain ⟨hl, q⟩ := List.getElem?_eq_some_iff.mp (get_of_list h2)
  rw [← q, List.set_getElem_self]
end
theorem tV_0 (x : Id × List Fd) (m : Mem) : idxop m (tV x) (.int 0) = some (pv x.1) := by show atIx _ 0 = _; rfl
theorem tV_1 (x : Id × List Fd) (m : Mem) : idxop m (tV x) (.int 1) = some (.tup (x.2.map fV)) := by show atIx _ 1 = _; rfl
theorem GOk.w {W Wf : List (Id × List Rq)} {S Sf : List Sd} {T : List (Id × List Fd)} (h : GOk W S T Wf Sf) : Wf.length + T.length = W.length ∧ Sf.length = S.length + T.length ∧ ∀ a ∈ Wf, a ∈ W := by
  induction h with
  | nil => exact ⟨by simp, by simp, fun a h => h⟩
  | cons hA hB e h ih =>
    obtain ⟨a, b, c⟩ := ih
    simp only [List.length_append, List.length_cons, List.length_nil] at *
    refine ⟨by omega, by omega, fun z hz => ?_⟩
    rcases List.mem_append.mp (c z hz) with q | q
    · exact List.mem_append_left _ q
    · exact List.mem_append_right _ (List.mem_cons_of_mem _ q)
theorem gr_step (d : Nat) (m : Mem) {ak sg : Nat} (ha : ak < m.length) (hs : sg < m.length) (n : ak ≠ sg) {A B : List (Id × List Rq)} {S : List Sd} {i : Id} {reqs : List Rq} {fd : List Fd} (hA : ∀ p ∈ A, p.1 ≠ i) (hB : ∀ p ∈ B, p.1 ≠ i) (e : EO (i, reqs, fd)) (hl : reqs.length < 10000) (hz : S.length < 10000) (x0 x4 x5 : Option Val) :
    ∃ y4 y5, execB P (callN P (d + 1)) b__law_granted_2 [x0, some (.ref ak), some (.ref sg), some (tV (i, fd)), x4, x5] (gm m ak sg (A ++ (i, reqs) :: B) S) = .nx [x0, some (.ref ak), some (.ref sg), some (tV (i, fd)), y4, y5] (gm m ak sg (A ++ B) (S ++ [(i, reqs, fd)])) := by
  have hd := gm_ak (W := A ++ (i, reqs) :: B) (S := S) ha n
  have dl : dlook (mp pv grs (A ++ (i, reqs) :: B)) (pv i) = some (grs reqs) := by rw [dlook_mp id_eqv, look2_mid hA]; rfl
  have di : dinR true (pv i) (.ref ak) (gm m ak sg (A ++ (i, reqs) :: B) S) = .ok (.bool false) (gm m ak sg (A ++ (i, reqs) :: B) S) := by
    unfold dinR
    simp only [dct_at hd]
    rw [if_pos (id_put _), dl]; rfl
  have isd : ∀ k, isDctR (.ref ak) (gm m ak sg (A ++ (i, reqs) :: B) S) k = k := fun k => by unfold isDctR; simp only [dct_at hd]
  have dp : dpopR (.ref ak) (pv i) (gm m ak sg (A ++ (i, reqs) :: B) S) = .ok (grs reqs) (gm m ak sg (A ++ B) S) := by
    unfold dpopR
    simp only [dct_at hd]
    rw [if_pos (id_put _)]
    simp only [dl]
    rw [ddel_mp id_eqv, del2_mid hA hB, gm_set_ak n]
  have t0 := fun M => tV_0 (i, fd) M
  have t1 := fun M => tV_1 (i, fd) M
  have ls : (gm m ak sg (A ++ B) S).list sg = some (S.map sV) := gm_sg hs
  obtain ⟨y5, ei⟩ := gr_inner d (gm m ak sg (A ++ B) S) e hl (tV (i, fd)) t1 x0 (some (.ref ak)) (some (.ref sg)) x5
  have ba := bm_app (v := sV (i, reqs, fd)) ls (by rw [List.length_map]; unfold SZ; omega)
  rw [show S.map sV ++ [sV (i, reqs, fd)] = (S ++ [(i, reqs, fd)]).map sV by simp, gm_set_sg] at ba
  have rr := recv_list (f := .append) ls
  have esv : sV (i, reqs, fd) = .tup [pv i, grs reqs, .tup (fd.map fV)] := rfl
  rw [esv] at ba
  obtain ⟨k1, ek1⟩ : ∃ k1 : Int, k1 = reqs.length := ⟨_, rfl⟩
  have l1 : ∀ M, bltop .len [.tup (fd.map fV)] M = .ok (.int k1) M := fun M => by rw [len_tup, List.length_map, ek1, e.len]
  have l2 : ∀ M, bltop .len [grs reqs] M = .ok (.int k1) M := fun M => by unfold grs; rw [len_tup, List.length_map, ek1]
  have l3 : ∀ M, bltop .len [tV (i, fd)] M = .ok (.int 2) M := fun M => by unfold tV; rw [len_tup]; rfl
  have gI : ∀ (m : Mem) (v : Int), gc m (.ok (.int v) m) = .ok (.int v) m := fun m v => gc_same (by simp)
  have i3 : ∀ M, tyOf M (tV (i, fd)) = some .tuple := fun M => rfl
  have i4 : ∀ M, tyOf M (pv i) = some .tuple := fun M => rfl
  have i5 : ∀ M, tyOf M (.tup (fd.map fV)) = some .tuple := fun M => rfl
  have hg : grs (i, reqs, fd).2.1 = grs reqs := rfl
  rw [hg] at ei
  refine ⟨some (grs reqs), y5, ?_⟩
  generalize gm m ak sg (A ++ (i, reqs) :: B) S = G0 at *
  generalize gm m ak sg (A ++ B) S = G1 at *
  generalize gm m ak sg (A ++ B) (S ++ [(i, reqs, fd)]) = G2 at *
  generalize tV (i, fd) = TV at *
  generalize grs reqs = GR at *
  generalize pv i = PI at *
  generalize fd.map fV = FS at *
  simp [b__law_granted_2, i3, isiK, l3, gI, t0, i4, di, isd, dp, t1, i5, l1, l2, ei, rr, ba, show (3 : Nat) ≤ SZ by decide]

end L34

namespace L34
open Py
theorem run_grantedL (d : Nat) {m : Mem} {ak sg : Nat} {W Wf : List (Id × List Rq)} {S Sf : List Sd} {T : List (Id × List Fd)} (h1 : m[ak]? = some (.dict true (mp pv grs W))) (h2 : m.list sg = some (S.map sV)) (G : GOk W S T Wf Sf) (hW : ∀ a ∈ W, a.2.length < 10000) (hz : S.length + T.length < 10000) :
    callN P (d + 2) "_law_granted" [.tup (T.map tV), .ref ak, .ref sg] m = .ok (.bool true) (gm m ak sg Wf Sf) := by
  rw [callN_fn e__law_granted rfl]
  have ha : ak < m.length := (List.getElem?_eq_some_iff.mp h1).1
  have hs : sg < m.length := list_lt h2
  have n : ak ≠ sg := fun z => by rw [z, get_of_list h2] at h1; cases h1
  obtain ⟨l', M, el, W', S', x3, x4, x5, el1, em1, G', _⟩ := for_all (chk := none) (t := .name 3) (b := execB P (callN P (d + 1)) b__law_granted_2) (xs := T.map tV)
    (fun i l M => ∃ W' S' x3 x4 x5, l = [some (.tup (T.map tV)), some (.ref ak), some (.ref sg), x3, x4, x5] ∧ M = gm m ak sg W' S' ∧ GOk W' S' (T.drop i) Wf Sf ∧ (∀ a ∈ W', a.2.length < 10000) ∧ S'.length = S.length + i ∧ i ≤ T.length)
    (fun _ _ _ _ => still_none _) (fun i x l M hx hi => by
      obtain ⟨W', S', x3, x4, x5, e1, e2, G', hw, hl, hi⟩ := hi
      subst e1 e2
      rw [List.getElem?_map] at hx
      obtain ⟨t, ht, et⟩ := Option.map_eq_some_iff.mp hx
      subst et
      obtain ⟨hil, eqt⟩ := List.getElem?_eq_some_iff.mp ht
      rw [List.drop_eq_getElem_cons hil, eqt] at G'
      refine ⟨_, asg_name _ _ _ _, ?_⟩
      cases G' with
      | @cons A B _ id reqs fd _ _ _ hA hB e h =>
        obtain ⟨y4, y5, es⟩ := gr_step d m ha hs n (S := S') hA hB e (hw (id, reqs) (List.mem_append_right _ List.mem_cons_self)) (by omega) (some (.tup (T.map tV))) x4 x5
        refine Flow.by (by exact es) ?_
        refine Flow.nx_of ⟨A ++ B, _, _, _, _, rfl, rfl, h, fun a ha => ?_, by rw [List.length_append, hl]; simp; omega, hil⟩
        rcases List.mem_append.mp ha with q | q
        · exact hw a (List.mem_append_left _ q)
        · exact hw a (List.mem_append_right _ (List.mem_cons_of_mem _ q))) (l := [some (.tup (T.map tV)), some (.ref ak), some (.ref sg), none, none, none]) (m := gm m ak sg W S) ⟨W, S, none, none, none, rfl, rfl, by rw [List.drop_zero]; exact G, hW, rfl, Nat.zero_le _⟩
  subst el1 em1
  rw [List.length_map, List.drop_length] at G'
  have ew : W' = Wf ∧ S' = Sf := by cases G'; exact ⟨rfl, rfl⟩
  obtain ⟨ew, es⟩ := ew
  subst ew es
  rw [gm_self h1 h2] at el
  have i3 : ∀ M, tyOf M (.tup (T.map tV)) = some .tuple := fun M => rfl
  have ex : execB P (callN P (d + 1)) f__law_granted.body (start f__law_granted.ns [.tup (T.map tV), .ref ak, .ref sg]) m = .ret (.bool true) (gm m ak sg W' S') := by
    generalize T.map tV = TV at *
    simp [f__law_granted, start, i3, isiK, el]
  rw [ex]
  exact gc_len (gm_len _ _ _ _ _) (by simp)
theorem seq_tup {C : Calls} {e : E} {l : Loc} {m : Mem} {xs : List Val} (h : evalE P C e l m = .ok (.tup xs) m) : evalI P C (.seq e) l m = .ok (xs, none) m := by
  rw [ev_evalI0, h]; rfl
theorem prom_inner (C : Calls) (m : Mem) {x : Sd} (he : EO x) (hl : x.2.1.length < 10000) (k : Ky) (acc : Int) (x0 x4 : Option Val) :
    ∃ y4, execB P C b__law_promised_2 [x0, some (kyV k), some (.int acc), some (sV x), x4] m = .nx [x0, some (kyV k), some (.int (acc + ((x.2.1.zip x.2.2).map (prA k)).sum)), some (sV x), y4] m := by
  obtain ⟨n, en⟩ : ∃ n : Int, n = x.2.1.length := ⟨_, rfl⟩
  obtain ⟨l', m', el, _, y4, el1, em1⟩ := for_all (chk := none) (t := .name 4) (b := execB P C b__law_promised_1) (xs := (List.range n.toNat).map fun (i : Nat) => .int i)
    (fun i l m' => i ≤ x.2.1.length ∧ ∃ y4, l = [x0, some (kyV k), some (.int (acc + (((x.2.1.zip x.2.2).take i).map (prA k)).sum)), some (sV x), y4] ∧ m' = m)
    (fun _ _ _ _ => still_none _) (fun i v l m' hx hi => by
      obtain ⟨hin, ex⟩ := rng_get hx
      obtain ⟨_, y4, e1, e2⟩ := hi
      subst e1 e2 ex
      have hi1 : i < x.2.1.length := by omega
      obtain ⟨rq, hrq⟩ : ∃ rq, x.2.1[i]? = some rq := ⟨_, List.getElem?_eq_getElem hi1⟩
      obtain ⟨y, hy⟩ : ∃ y, x.2.2[i]? = some y := ⟨_, List.getElem?_eq_getElem (by rw [he.len]; exact hi1)⟩
      have hzip : (x.2.1.zip x.2.2)[i]? = some (rq, y) := List.getElem?_zip_eq_some.mpr ⟨hrq, hy⟩
      have e := he.e _ (List.mem_of_getElem? hzip)
      have e : EO1 rq y := e
      rw [take_snoc hzip, List.map_append, List.sum_append]
      generalize (((x.2.1.zip x.2.2).take i).map (prA k)).sum = s
      have es : ([(rq, y)].map (prA k)).sum = prA k (rq, y) := by simp
      rw [es]
      obtain ⟨ii, eii⟩ : ∃ ii : Int, ii = (i : Int) := ⟨_, rfl⟩
      have g1 := fun M => grs_at hrq (by omega) M eii
      have g3 := fun M => fvs_at hy M eii
      have q0 := fun M => grV_0 rq M
      have q1 := fun M => grV_1 rq M
      have q2 := fun M => grV_2 rq M
      have v1 := fun M => sV_1 x M
      have v2 := fun M => sV_2 x M
      have s2 : ∀ M, cmpop .eq (.str rq.2.1) (.str [116, 97, 107, 101]) M = some (decide (rq.2.1 = sTake)) := fun M => eq_str _ _ M
      have ke := fun M => ky_eq rq.1 k M
      refine ⟨_, asg_name _ _ _ _, ?_⟩
      rw [← eii]
      generalize sV x = SV at *
      generalize grs x.2.1 = RS at *
      generalize Val.tup (x.2.2.map fV) = FS at *
      have ex : execB P C b__law_promised_1 ([x0, some (kyV k), some (.int (acc + s)), some SV, y4].set 4 (some (.int ii))) m' = .nx [x0, some (kyV k), some (.int (acc + (s + prA k (rq, y)))), some SV, some (.int ii)] m' := by
        by_cases a : rq.1 = k
        · rw [decide_eq_true a] at ke
          by_cases t : rq.2.1 = sTake
          · rw [decide_eq_true t] at s2
            obtain ⟨ef, p0, p1⟩ := e.tk t
            rw [ef] at g3
            by_cases w : y.2 = rq.2.2
            · have ep : prA k (rq, y) = y.2 := by unfold prA; rw [if_pos ⟨a, t, w⟩]
              rw [ep, ← Int.add_assoc]
              rw [← w] at q2
              generalize kyV k = KV at *
              generalize kyV rq.1 = KR at *
              generalize grV rq = GV at *
              simp [b__law_promised_1, v1, g1, q0, ke, q1, s2, v2, g3, q2]
            · have ep : prA k (rq, y) = 0 := by unfold prA; rw [if_neg fun z => w z.2.2]
              have w' : (y.2 == rq.2.2) = false := by simpa using w
              rw [ep, Int.add_zero]
              generalize kyV k = KV at *
              generalize kyV rq.1 = KR at *
              generalize grV rq = GV at *
              simp [b__law_promised_1, v1, g1, q0, ke, q1, s2, v2, g3, q2, w']
          · rw [decide_eq_false t] at s2
            have ep : prA k (rq, y) = 0 := by unfold prA; rw [if_neg fun z => t z.2.1]
            rw [ep, Int.add_zero]
            generalize kyV k = KV at *
            generalize kyV rq.1 = KR at *
            generalize grV rq = GV at *
            simp [b__law_promised_1, v1, g1, q0, ke, q1, s2]
        · rw [decide_eq_false a] at ke
          have ep : prA k (rq, y) = 0 := by unfold prA; rw [if_neg fun z => a z.1]
          rw [ep, Int.add_zero]
          generalize kyV k = KV at *
          generalize kyV rq.1 = KR at *
          generalize grV rq = GV at *
          simp [b__law_promised_1, v1, g1, q0, ke]
      refine Flow.by ex ?_
      exact Flow.nx_of ⟨hi1, _, rfl, rfl⟩) (l := [x0, some (kyV k), some (.int acc), some (sV x), x4]) (m := m) ⟨Nat.zero_le _, x4, by simp, rfl⟩
  subst el1 em1
  have hlen : (x.2.1.zip x.2.2).length = x.2.1.length := by rw [List.length_zip, he.len, Nat.min_self]
  have hnn : ((List.range n.toNat).map fun (i : Nat) => Val.int i).length = x.2.1.length := by rw [List.length_map, List.length_range]; omega
  rw [hnn, ← hlen, List.take_length] at el
  have lg : bltop .len [grs x.2.1] m' = .ok (.int n) m' := by unfold grs; rw [len_tup, List.length_map, en]
  have gI : ∀ (m : Mem) (v : Int), gc m (.ok (.int v) m) = .ok (.int v) m := fun m v => gc_same (by simp)
  have hj : -4611686018427387904 ≤ n ∧ n < 4611686018427387904 := by omega
  have v1 := fun M => sV_1 x M
  refine ⟨y4, ?_⟩
  generalize sV x = SV at *
  generalize grs x.2.1 = RS at *
  simp [b__law_promised_2, v1, lg, gI, hj, el]
theorem run_promised (d : Nat) {m : Mem} {sg : Nat} {S : List Sd} (hs : m.list sg = some (S.map sV)) (he : ∀ x ∈ S, EO x) (hl : ∀ x ∈ S, x.2.1.length < 10000) (k : Ky) :
    callN P (d + 1) "_law_promised" [.ref sg, kyV k] m = .ok (.int (promF S k)) m := by
  rw [callN_fn e__law_promised rfl]
  obtain ⟨l', m', el, _, x3, x4, el1, em1⟩ := for_all (chk := some (sg, S.map sV)) (t := .name 3) (b := execB P (callN P d) b__law_promised_2) (xs := S.map sV)
    (fun i l M => i ≤ S.length ∧ ∃ x3 x4, l = [some (.ref sg), some (kyV k), some (.int (promF (S.take i) k)), x3, x4] ∧ M = m)
    (fun i l M h => by obtain ⟨_, _, _, _, e⟩ := h; subst e; unfold still; exact hs) (fun i v l M hx hi => by
      obtain ⟨_, x3, x4, e1, e2⟩ := hi
      subst e1 e2
      rw [List.getElem?_map] at hx
      obtain ⟨x, hq, eq⟩ := Option.map_eq_some_iff.mp hx
      subst eq
      have hil : i < S.length := (List.getElem?_eq_some_iff.mp hq).1
      have hxm : x ∈ S := List.mem_of_getElem? hq
      rw [take_snoc hq]
      have ep : promF (S.take i ++ [x]) k = promF (S.take i) k + ((x.2.1.zip x.2.2).map (prA k)).sum := by unfold promF; rw [List.map_append, List.sum_append]; simp
      rw [ep]
      obtain ⟨y4, e⟩ := prom_inner (callN P d) M (he x hxm) (hl x hxm) k (promF (S.take i) k) (some (.ref sg)) x4
      refine ⟨_, asg_name _ _ _ _, ?_⟩
      refine Flow.by (by exact e) ?_
      exact Flow.nx_of ⟨hil, _, _, rfl, rfl⟩) (l := [some (.ref sg), some (kyV k), some (.int 0), none, none]) (m := m) ⟨Nat.zero_le _, none, none, by simp [promF], rfl⟩
  subst el1 em1
  rw [List.length_map, List.take_length] at el
  have ex : execB P (callN P d) f__law_promised.body (start f__law_promised.ns [.ref sg, kyV k]) m' = .ret (.int (promF S k)) m' := by
    generalize kyV k = KV at *
    generalize S.map sV = SV at *
    simp [f__law_promised, start, hs, el]
  rw [ex]
  exact gc_same (by simp)

end L34

namespace L34
open Py
/-! ### a granted deed ends -/
theorem noSee_of {reqs : List Rq} {fd : List Fd} {i : Nat} {rq : Rq} {y : Fd} (h1 : reqs[i]? = some rq) (h2 : fd[i]? = some y) (h : y.1 ≠ sSee) : rq.1 ∈ noSee (grZ reqs fd) := by
  unfold noSee grZ
  refine List.mem_filterMap.mpr ⟨(rq.1, y.1, am1 y), List.mem_map.mpr ⟨(rq, y), List.mem_of_getElem? (List.getElem?_zip_eq_some.mpr ⟨h1, h2⟩), rfl⟩, ?_⟩
  show (if y.1 = sSee then none else some rq.1) = _
  rw [if_neg h]
theorem gc_trim {m m' g : Mem} {v : Val} (hl : m'.length = m.length) (h : ∀ (i : Nat) (o : Ob), m'[i]? = some o → m[i]? = some o ∨ o.under m.length = true) (hv : v.under m.length = true) : gc m (.ok v (m' ++ g)) = .ok v m' := by
  have e : (m' ++ g).take m.length = m' := by rw [List.take_append_of_le_length (by omega)]; exact List.take_of_length_le (by omega)
  unfold gc
  simp only [e]
  rw [if_pos ⟨by rw [List.length_append]; omega, by rw [e]; exact h⟩, if_pos hv]
/-- the pool, the values, the writes so far -/
def es (m : Mem) (r vd : Nat) (ys : List Int) (vals : List (Ky × Val)) (ws : List (Ky × Val)) (g : Mem) : Mem := pw (m.set vd (.dict true (mp kyV id vals)) ++ .list (ws.map wrV) :: g) r ys
section
variable {m : Mem} {r vd : Nat} {ys : List Int} {vals : List (Ky × Val)} {ws : List (Ky × Val)} {g : Mem}
theorem es_len : (es m r vd ys vals ws g).length = m.length + 1 + g.length := by unfold es; rw [pw_len]; simp; omega
theorem es_draw (d : Nat) (hr : r < m.length) (hp : Pl ys) (vals ws : List (Ky × Val)) (g : Mem) (n : Int) (hn : 0 < n) : ∃ (y : Int) (zs : List Int), 0 ≤ y ∧ y < n ∧ Pl zs ∧ callN P (d + 1) "_law_draw" [.ref r, .int n] (es m r vd ys vals ws g) = .ok (.int y) (es m r vd zs vals ws g) := by
  unfold es
  exact draw d _ (by simp; omega) hp n hn
theorem es_app (hr : r < m.length) (g' : Mem) : es m r vd ys vals ws g ++ g' = es m r vd ys vals ws (g ++ g') := by
  unfold es; rw [pw_app (by simp; omega)]; simp
theorem es_old {j : Nat} {o : Ob} (h : m[j]? = some o) (h1 : j ≠ r) (h2 : j ≠ vd) : (es m r vd ys vals ws g)[j]? = some o := by
  unfold es pw
  rw [List.getElem?_set_ne h1.symm]
  exact get_app (by rw [List.getElem?_set_ne h2.symm]; exact h)
theorem es_out (hr : r < m.length) : (es m r vd ys vals ws g).list m.length = some (ws.map wrV) := by
  unfold es pw
  rw [list_set (by omega)]
  have := mem_newg (m.set vd (.dict true (mp kyV id vals))) g (ws.map wrV)
  rw [List.length_set] at this
  exact this
theorem es_vd (hv : vd < m.length) (hn : vd ≠ r) : (es m r vd ys vals ws g)[vd]? = some (.dict true (mp kyV id vals)) := by
  unfold es pw
  rw [List.getElem?_set_ne hn.symm]
  exact get_app (List.getElem?_set_self hv)
theorem es_seto (hr : r < m.length) (ws' : List (Ky × Val)) : (es m r vd ys vals ws g).set m.length (.list (ws'.map wrV)) = es m r vd ys vals ws' g := by
  unfold es pw
  rw [List.set_comm _ _ (by omega)]
  have := set_newg (m.set vd (.dict true (mp kyV id vals))) g (.list (ws.map wrV)) (.list (ws'.map wrV))
  rw [List.length_set] at this
  rw [this]
theorem es_setv (hv : vd < m.length) (hn : vd ≠ r) (vals' : List (Ky × Val)) : (es m r vd ys vals ws g).set vd (.dict true (mp kyV id vals')) = es m r vd ys vals' ws g := by
  unfold es pw
  rw [List.set_comm _ _ (Ne.symm hn), List.set_append_left _ _ (by simpa using hv), List.set_set]
theorem es_put (hr : r < m.length) (w : Ky × Val) (hl : ws.length < 1000) : bmop .append (.ref m.length) [wrV w] (es m r vd ys vals ws g) = .ok .none (es m r vd ys vals (ws ++ [w]) g) := by
  have := bm_app (v := wrV w) (es_out (m := m) (r := r) (vd := vd) (ys := ys) (vals := vals) (ws := ws) (g := g) hr) (by rw [List.length_map]; unfold SZ; omega)
  rw [this, ← es_seto (ws := ws) hr (ws ++ [w])]; simp
end
/-- how the change is drawn -/
theorem en_add (d : Nat) {m : Mem} {r vd : Nat} (hr : r < m.length) {x : Sd} {rq : Rq} (ii : Int) (g1 : ∀ M, idxop M (grs x.2.1) (.int ii) = some (grV rq)) (way : Int) (w0 : 0 ≤ way) {ys : List Int} (hp : Pl ys) (vals ws : List (Ky × Val)) (g : Mem) :
    ∃ zs g' c, Pl zs ∧ (rq.2.1 = sAdd ∨ c = 0) ∧ (fr rq.1 → 0 ≤ c) ∧ execS P (callN P (d + 1)) (b__law_ended_1.getD 3 .dead) [some (.ref r), some (sV x), some (.ref vd), some (.ref m.length), some (.int ii), some (kyV rq.1), some (.int way), some (.int 0)] (es m r vd ys vals ws g) = .nx [some (.ref r), some (sV x), some (.ref vd), some (.ref m.length), some (.int ii), some (kyV rq.1), some (.int way), some (.int c)] (es m r vd zs vals ws g') := by
  have v1 := fun M => sV_1 x M
  have q1 := fun M => grV_1 rq M
  have s1 : ∀ M, cmpop .eq (.str rq.2.1) (.str [97, 100, 100]) M = some (decide (rq.2.1 = sAdd)) := fun M => eq_str _ _ M
  have k1 := fun M => ky_1 rq.1 M
  by_cases a : rq.2.1 = sAdd
  · rw [decide_eq_true a] at s1
    by_cases b : 0 < way
    · obtain ⟨mo, zs, m0, m1, pz, ez⟩ := es_draw (vd := vd) d hr hp vals ws g 60 (by decide)
      by_cases w1 : way = 1
      · subst w1
        obtain ⟨G1, eG1⟩ : ∃ G1 : Mem, G1 = g ++ [.list [.str [102, 114, 101, 101], .str [112, 117, 114, 115, 101]]] := ⟨_, rfl⟩
        have wa := es_app (m := m) (r := r) (vd := vd) (ys := zs) (vals := vals) (ws := ws) (g := g) hr [.list [.str [102, 114, 101, 101], .str [112, 117, 114, 115, 101]]]
        have q3 := nmem_lstr rq.1.2.1 [sFree, sPurse] (m := es m r vd zs vals ws g ++ [.list [.str sFree, .str sPurse]]) (mem_new _ _)
        rw [show es m r vd zs vals ws g ++ [Ob.list [.str sFree, .str sPurse]] = es m r vd zs vals ws G1 by rw [es_app hr, eG1]] at q3
        rw [← eG1] at wa
        cases q4 : decide (rq.1.2.1 ∈ [sFree, sPurse]) with
        | true =>
          rw [q4] at q3
          refine ⟨zs, G1, 1 + mo, pz, .inl a, fun _ => by omega, ?_⟩
          have q3' : cmpop .nmem (.str rq.1.2.1) (.ref (es m r vd zs vals ws g).length) (es m r vd zs vals ws G1) = some false := q3
          generalize sV x = SV at *
          generalize grs x.2.1 = RS at *
          generalize kyV rq.1 = KV at *
          generalize grV rq = GV at *
          simp [b__law_ended_1, v1, g1, q1, s1, ez, k1, show (2 : Nat) ≤ SZ by decide, wa, q3']
        | false =>
          rw [q4] at q3
          have q3' : cmpop .nmem (.str rq.1.2.1) (.ref (es m r vd zs vals ws g).length) (es m r vd zs vals ws G1) = some true := q3
          refine ⟨zs, G1, -(1 + mo), pz, .inl a, fun f => ?_, ?_⟩
          · have : rq.1.2.1 ∈ [sFree, sPurse] := by rcases f with f | f <;> rw [f] <;> decide
            exact absurd this (of_decide_eq_false q4)
          generalize sV x = SV at *
          generalize grs x.2.1 = RS at *
          generalize kyV rq.1 = KV at *
          generalize grV rq = GV at *
          simp [b__law_ended_1, v1, g1, q1, s1, ez, k1, show (2 : Nat) ≤ SZ by decide, wa, q3']
      · have w1' : (way == 1) = false := by simpa using w1
        refine ⟨zs, g, 1 + mo, pz, .inl a, fun _ => by omega, ?_⟩
        generalize sV x = SV at *
        generalize grs x.2.1 = RS at *
        generalize kyV rq.1 = KV at *
        generalize grV rq = GV at *
        simp [b__law_ended_1, v1, g1, q1, s1, b, ez, w1']
    · refine ⟨ys, g, 0, hp, .inr rfl, fun _ => Int.le_refl _, ?_⟩
      generalize sV x = SV at *
      generalize grs x.2.1 = RS at *
      generalize kyV rq.1 = KV at *
      generalize grV rq = GV at *
      simp [b__law_ended_1, v1, g1, q1, s1, b]
  · rw [decide_eq_false a] at s1
    refine ⟨ys, g, 0, hp, .inr rfl, fun _ => Int.le_refl _, ?_⟩
    generalize sV x = SV at *
    generalize grs x.2.1 = RS at *
    generalize kyV rq.1 = KV at *
    generalize grV rq = GV at *
    simp [b__law_ended_1, v1, g1, q1, s1]
theorem en_take (C : Calls) {m : Mem} {r vd : Nat} (hr : r < m.length) {x : Sd} {rq : Rq} {y : Fd} (e : EO1 rq y) (ii : Int) (g1 : ∀ M, idxop M (grs x.2.1) (.int ii) = some (grV rq)) (g3 : ∀ M, idxop M (.tup (x.2.2.map fV)) (.int ii) = some (fV y)) (way : Int) (w0 : 0 ≤ way ∧ way < 3) (ys : List Int) (vals ws : List (Ky × Val)) (g : Mem) (c0 : Int) (hc0 : rq.2.1 = sAdd ∨ c0 = 0) (hf0 : fr rq.1 → 0 ≤ c0) :
    ∃ g' c, (c ≠ 0 → y.1 ≠ sSee) ∧ (fr rq.1 → - tk1 y ≤ c) ∧ execS P C (b__law_ended_1.getD 4 .dead) [some (.ref r), some (sV x), some (.ref vd), some (.ref m.length), some (.int ii), some (kyV rq.1), some (.int way), some (.int c0)] (es m r vd ys vals ws g) = .nx [some (.ref r), some (sV x), some (.ref vd), some (.ref m.length), some (.int ii), some (kyV rq.1), some (.int way), some (.int c)] (es m r vd ys vals ws g') := by
  have v1 := fun M => sV_1 x M
  have v2 := fun M => sV_2 x M
  have q1 := fun M => grV_1 rq M
  have s2 : ∀ M, cmpop .eq (.str rq.2.1) (.str [116, 97, 107, 101]) M = some (decide (rq.2.1 = sTake)) := fun M => eq_str _ _ M
  by_cases t : rq.2.1 = sTake
  · rw [decide_eq_true t] at s2
    obtain ⟨ef, p0, p1⟩ := e.tk t
    rw [ef] at g3
    obtain ⟨_, _, kd⟩ := e.take t
    have et : tk1 y = y.2 := by unfold tk1; rw [if_pos (by rcases kd with z | z; exact .inl z.1; exact .inr z.1)]
    have ns : y.1 ≠ sSee := by rcases kd with z | z <;> rw [z.1] <;> decide
    obtain ⟨hh, ehh⟩ : ∃ hh : Int, hh = y.2.fdiv 2 := ⟨_, rfl⟩
    have hh0 : 0 ≤ hh ∧ hh ≤ y.2 := by
      rw [ehh, Int.fdiv_eq_ediv_of_nonneg _ (by decide)]
      omega
    obtain ⟨L, eL⟩ : ∃ L, L = [Val.int y.2, .int 0, .int hh] := ⟨_, rfl⟩
    have wa := es_app (m := m) (r := r) (vd := vd) (ys := ys) (vals := vals) (ws := ws) (g := g) hr [.list L]
    obtain ⟨v, hv, ix⟩ : ∃ v : Int, (0 ≤ v ∧ v ≤ y.2) ∧ idxop (es m r vd ys vals ws (g ++ [.list L])) (.ref (es m r vd ys vals ws g).length) (.int way) = some (.int v) := by
      rw [← wa, idx_list (mem_new _ _), eL]
      rcases (by omega : way = 0 ∨ way = 1 ∨ way = 2) with q | q | q <;> rw [q]
      · exact ⟨y.2, by omega, rfl⟩
      · exact ⟨0, by omega, rfl⟩
      · exact ⟨hh, hh0, rfl⟩
    refine ⟨g ++ [.list L], -v, fun _ => ns, fun _ => by rw [et]; omega, ?_⟩
    rw [eL] at wa ix ⊢
    rw [ehh] at wa ix ⊢
    generalize sV x = SV at *
    generalize grs x.2.1 = RS at *
    generalize kyV rq.1 = KV at *
    generalize grV rq = GV at *
    generalize Val.tup (x.2.2.map fV) = FS at *
    simp [b__law_ended_1, v1, v2, g1, q1, s2, g3, op_divI (show divOk 2 by decide), show (3 : Nat) ≤ SZ by decide, wa, ix]
  · rw [decide_eq_false t] at s2
    refine ⟨g, c0, fun hc => ?_, fun f => ?_, ?_⟩
    · rcases hc0 with z | z
      · rw [e.add z]; decide
      · exact absurd z hc
    · have : tk1 y = 0 := by
        unfold tk1
        rw [if_neg]
        rcases e.wm with z | z | z
        · rw [e.see z]; decide
        · rw [e.add z]; decide
        · exact absurd z t
      have := hf0 f
      omega
    generalize sV x = SV at *
    generalize grs x.2.1 = RS at *
    generalize kyV rq.1 = KV at *
    generalize grV rq = GV at *
    simp [b__law_ended_1, v1, g1, q1, s2]

end L34

namespace L34
open Py
theorem carry_put {vals ws : List (Ky × Val)} {k : Ky} (am : amt k) (c : Int) : carryF vals (ws ++ [(k, .int c)]) = put2 (carryF vals ws) k (.int (vI (carryF vals ws) k + c)) := by
  rw [carryF_snoc]
  unfold carry1
  rw [if_pos am]; rfl
theorem en_put (C : Calls) {m : Mem} {r vd : Nat} (hr : r < m.length) (hv : vd < m.length) (hn : vd ≠ r) {k : Ky} (am : amt k) (x1 x4 x6 : Option Val) (c : Int) (ys : List Int) {vals : List (Ky × Val)} (ws : List (Ky × Val)) (vi : VI (carryF vals ws)) (hl : (carryF vals ws).length < 900000) (hw : ws.length < 1000) (g : Mem) :
    execS P C (b__law_ended_1.getD 5 .dead) [some (.ref r), x1, some (.ref vd), some (.ref m.length), x4, some (kyV k), x6, some (.int c)] (es m r vd ys (carryF vals ws) ws g) = .nx [some (.ref r), x1, some (.ref vd), some (.ref m.length), x4, some (kyV k), x6, some (.int c)] (if c = 0 then es m r vd ys (carryF vals ws) ws g else es m r vd ys (carryF vals (ws ++ [(k, .int c)])) (ws ++ [(k, .int c)]) g) := by
  by_cases q : c = 0
  · subst q
    rw [if_pos rfl]
    generalize kyV k = KV at *
    simp [b__law_ended_1]
  · rw [if_neg q]
    have q' : (c == 0) = false := by simpa using q
    have ap := es_put (vd := vd) (ys := ys) (vals := carryF vals ws) (g := g) hr (k, .int c) hw
    have rr := recv_list (f := .append) (es_out (m := m) (r := r) (vd := vd) (ys := ys) (vals := carryF vals ws) (ws := ws) (g := g) hr)
    have hd := es_vd (m := m) (r := r) (ys := ys) (vals := carryF vals ws) (ws := ws ++ [(k, .int c)]) (g := g) hv hn
    have dg := dgetD_vals hd vi am
    have isd := isDct_vals hd
    have dp := fun l => dput_ok (l := l) (v := .int (vI (carryF vals ws) k + c)) hd (ky_put k) (by unfold mp; rw [List.length_map]; unfold SZ; omega)
    rw [show dput (mp kyV id (carryF vals ws)) (kyV k) (.int (vI (carryF vals ws) k + c)) = mp kyV id (carryF vals (ws ++ [(k, .int c)])) by rw [carry_put am]; exact dput_mp (f := id) ky_eqv _ _ _, es_setv hv hn] at dp
    have ew : wrV (k, .int c) = .tup [kyV k, .int c] := rfl
    rw [ew] at ap
    generalize kyV k = KV at *
    simp [b__law_ended_1, q', q, rr, ap, show (2 : Nat) ≤ SZ by decide, isd, dg, dp]
theorem run_ended (d : Nat) {m : Mem} {r vd : Nat} (hr : r < m.length) {vals : List (Ky × Val)} (hv : m[vd]? = some (.dict true (mp kyV id vals))) (hn : vd ≠ r) {xs : List Int} (hp : Pl xs) {x : Sd} (he : EO x) (hl : x.2.1.length < 100) (hk : ∀ q ∈ x.2.1, KO q.1 ∧ amt q.1) (vi : VI vals) (hvl : vals.length < 100000) :
    ∃ ws ys, Pl ys ∧ (∀ w ∈ ws, w.1 ∈ noSee (grZ x.2.1 x.2.2) ∧ (∃ c, w.2 = .int c) ∧ WOk w) ∧ ws.length ≤ x.2.1.length ∧ (∀ k, fr k → vI vals k - tsum (t1 x k) ≤ vI (carryF vals ws) k) ∧ callN P (d + 2) "_law_ended" [.ref r, sV x, .ref vd] (pw m r xs) = .ok (wrs ws) ((pw m r ys).set vd (.dict true (mp kyV id (carryF vals ws)))) := by
  rw [callN_fn e__law_ended rfl]
  have hvl' : vd < m.length := (List.getElem?_eq_some_iff.mp hv).1
  obtain ⟨n, en⟩ : ∃ n : Int, n = x.2.1.length := ⟨_, rfl⟩
  have m0 : m.set vd (.dict true (mp kyV id vals)) = m := by
    obtain ⟨hl, q⟩ := List.getElem?_eq_some_iff.mp hv
    rw [← q, List.set_getElem_self]
  have e0 : pw m r xs ++ [Ob.list []] = es m r vd xs (carryF vals []) [] [] := by
    unfold es; rw [show carryF vals [] = vals from rfl, m0, pw_app hr]; rfl
  obtain ⟨l', M, el, hle, ws, ys, g, x4, x5, x6, x7, el1, em1, py, hlen, hw, hq⟩ := for_all (chk := none) (t := .name 4) (b := execB P (callN P (d + 1)) b__law_ended_1) (xs := (List.range n.toNat).map fun (i : Nat) => .int i)
    (fun i l M => i ≤ x.2.1.length ∧ ∃ ws ys g x4 x5 x6 x7, l = [some (.ref r), some (sV x), some (.ref vd), some (.ref m.length), x4, x5, x6, x7] ∧ M = es m r vd ys (carryF vals ws) ws g ∧ Pl ys ∧ ws.length ≤ i ∧ (∀ w ∈ ws, w.1 ∈ noSee (grZ x.2.1 x.2.2) ∧ (∃ c, w.2 = .int c) ∧ WOk w) ∧
      ∀ k, fr k → vI vals k - tsum (((x.2.1.zip x.2.2).take i).filterMap fun p => if p.1.1 = k then some p.2 else none) ≤ vI (carryF vals ws) k)
    (fun _ _ _ _ => still_none _) (fun i v l M hx hi => by
      obtain ⟨hin, ex⟩ := rng_get hx
      obtain ⟨_, ws, ys, g, x4, x5, x6, x7, e1, e2, py, hlen, hw, hq⟩ := hi
      subst e1 e2 ex
      have hi1 : i < x.2.1.length := by omega
      obtain ⟨rq, hrq⟩ : ∃ rq, x.2.1[i]? = some rq := ⟨_, List.getElem?_eq_getElem hi1⟩
      obtain ⟨y, hy⟩ : ∃ y, x.2.2[i]? = some y := ⟨_, List.getElem?_eq_getElem (by rw [he.len]; exact hi1)⟩
      have hzip : (x.2.1.zip x.2.2)[i]? = some (rq, y) := List.getElem?_zip_eq_some.mpr ⟨hrq, hy⟩
      have e : EO1 rq y := he.e _ (List.mem_of_getElem? hzip)
      have hkr := hk rq (List.mem_of_getElem? hrq)
      obtain ⟨ii, eii⟩ : ∃ ii : Int, ii = (i : Int) := ⟨_, rfl⟩
      have g1 := fun M => grs_at hrq (by omega) M eii
      have g3 := fun M => fvs_at hy M eii
      have v1 := fun M => sV_1 x M
      have q0 := fun M => grV_0 rq M
      have vi' : VI (carryF vals ws) := vi.carry fun w h => (hw w h).2.2
      have cl := carry_len vals ws
      obtain ⟨way, z1, w0, w1, pz1, ez1⟩ := es_draw (vd := vd) d hr py (carryF vals ws) ws g 3 (by decide)
      obtain ⟨z2, g2, c0, pz2, hc0, hf0, e3⟩ := en_add (vd := vd) d hr ii g1 way w0 pz1 (carryF vals ws) ws g
      obtain ⟨g4, c, hc, hf, e4⟩ := en_take (vd := vd) (callN P (d + 1)) hr e ii g1 g3 way ⟨w0, w1⟩ z2 (carryF vals ws) ws g2 c0 hc0 hf0
      have e5 := en_put (callN P (d + 1)) hr hvl' hn hkr.2 (some (sV x)) (some (.int ii)) (some (.int way)) c z2 (vals := vals) ws vi' (by omega) (by omega) g4
      refine ⟨_, asg_name _ _ _ _, ?_⟩
      rw [← eii]
      have hb : b__law_ended_1 = b__law_ended_1.take 3 ++ [b__law_ended_1.getD 3 .dead, b__law_ended_1.getD 4 .dead, b__law_ended_1.getD 5 .dead] := by rfl
      have T1 : execB P (callN P (d + 1)) (b__law_ended_1.take 3) [some (.ref r), some (sV x), some (.ref vd), some (.ref m.length), some (.int ii), x5, x6, x7] (es m r vd ys (carryF vals ws) ws g) = .nx [some (.ref r), some (sV x), some (.ref vd), some (.ref m.length), some (.int ii), some (kyV rq.1), some (.int way), some (.int 0)] (es m r vd z1 (carryF vals ws) ws g) := by
        generalize sV x = SV at *
        generalize grs x.2.1 = GS at *
        generalize kyV rq.1 = KV at *
        generalize grV rq = GV at *
        simp [b__law_ended_1, v1, g1, q0, ez1]
      have ex : execB P (callN P (d + 1)) b__law_ended_1 [some (.ref r), some (sV x), some (.ref vd), some (.ref m.length), some (.int ii), x5, x6, x7] (es m r vd ys (carryF vals ws) ws g) = .nx [some (.ref r), some (sV x), some (.ref vd), some (.ref m.length), some (.int ii), some (kyV rq.1), some (.int way), some (.int c)] (if c = 0 then es m r vd z2 (carryF vals ws) ws g4 else es m r vd z2 (carryF vals (ws ++ [(rq.1, .int c)])) (ws ++ [(rq.1, .int c)]) g4) := by
        rw [hb, execB_app, T1, fs_nx, ev_execB1, e3, fs_nx, ev_execB1, e4, fs_nx, ev_execB1, e5]; rfl
      have hsnoc : ∀ k, tsum (((x.2.1.zip x.2.2).take (i + 1)).filterMap fun p => if p.1.1 = k then some p.2 else none) = tsum (((x.2.1.zip x.2.2).take i).filterMap fun p => if p.1.1 = k then some p.2 else none) + (if rq.1 = k then tk1 y else 0) := fun k => by
        rw [take_snoc hzip, List.filterMap_append, tsum_app]
        congr 1
        by_cases q : rq.1 = k
        · rw [if_pos q, show List.filterMap (fun p : Rq × Fd => if p.1.1 = k then some p.2 else none) [(rq, y)] = [y] by simp [q]]
          unfold tsum; simp
        · rw [if_neg q, show List.filterMap (fun p : Rq × Fd => if p.1.1 = k then some p.2 else none) [(rq, y)] = [] by simp [q]]
          rfl
      refine Flow.by (by exact ex) ?_
      by_cases q : c = 0
      · rw [if_pos q]
        refine Flow.nx_of ⟨hi1, ws, z2, g4, _, _, _, _, rfl, rfl, pz2, by omega, hw, fun k f => ?_⟩
        have h1 := hq k f
        rw [hsnoc k]
        by_cases z : rq.1 = k
        · rw [if_pos z]
          have := hf (by rw [z]; exact f)
          omega
        · rw [if_neg z]; omega
      · rw [if_neg q]
        refine Flow.nx_of ⟨hi1, _, z2, g4, _, _, _, _, rfl, rfl, pz2, by simp; omega, fun w hw' => ?_, fun k f => ?_⟩
        · rcases List.mem_append.mp hw' with h | h
          · exact hw w h
          · rw [List.mem_singleton.mp h]
            exact ⟨noSee_of hrq hy (hc q), ⟨c, rfl⟩, ⟨hkr.1, rfl, fun _ => ⟨c, rfl⟩⟩⟩
        · have h1 := hq k f
          rw [hsnoc k, carry_put hkr.2, vI_put]
          by_cases z : rq.1 = k
          · rw [if_pos z, if_pos z, z]
            have := hf (by rw [z]; exact f)
            omega
          · rw [if_neg z, if_neg z]; omega) (l := [some (.ref r), some (sV x), some (.ref vd), some (.ref m.length), none, none, none, none]) (m := es m r vd xs (carryF vals []) [] []) ⟨Nat.zero_le _, [], xs, [], none, none, none, none, rfl, rfl, hp, Nat.le_refl _, (fun w hw => by cases hw), fun k f => by
        show vI vals k - tsum [] ≤ vI vals k
        have : tsum [] = 0 := rfl
        omega⟩
  subst el1 em1
  have hlen2 : (x.2.1.zip x.2.2).length = x.2.1.length := by rw [List.length_zip, he.len, Nat.min_self]
  have hnn : ((List.range n.toNat).map fun (i : Nat) => Val.int i).length = x.2.1.length := by rw [List.length_map, List.length_range]; omega
  rw [hnn] at hlen hq
  rw [← hlen2, List.take_length] at hq
  have v1 := fun M => sV_1 x M
  have lg : ∀ M, bltop .len [grs x.2.1] M = .ok (.int n) M := fun M => by unfold grs; rw [len_tup, List.length_map, en]
  have gI : ∀ (m : Mem) (v : Int), gc m (.ok (.int v) m) = .ok (.int v) m := fun m v => gc_same (by simp)
  have hj : -4611686018427387904 ≤ n ∧ n < 4611686018427387904 := by omega
  have bt := blt_tuple (seq_list (es_out (m := m) (r := r) (vd := vd) (ys := ys) (vals := carryF vals ws) (ws := ws) (g := g) hr))
  have hu : ∀ n, (wrs ws).under n = true := fun n => by
    unfold wrs; rw [under_tup]; exact underL_all fun z hz => by
      obtain ⟨w, hw', e⟩ := List.mem_map.mp hz
      obtain ⟨c, ec⟩ := (hw w hw').2.1
      rw [← e]; unfold wrV; rw [ec]; simp
  have gT : gc (es m r vd ys (carryF vals ws) ws g) (.ok (.tup (ws.map wrV)) (es m r vd ys (carryF vals ws) ws g)) = .ok (.tup (ws.map wrV)) (es m r vd ys (carryF vals ws) ws g) := gc_same (hu _)
  have ml : (pw m r xs).length = m.length := pw_len _ _ _
  have ex : execB P (callN P (d + 1)) f__law_ended.body (start f__law_ended.ns [.ref r, sV x, .ref vd]) (pw m r xs) = .ret (wrs ws) (es m r vd ys (carryF vals ws) ws g) := by
    show _ = Flow.ret (.tup (ws.map wrV)) _
    generalize ws.map wrV = WV at bt gT ⊢
    generalize sV x = SV at *
    generalize grs x.2.1 = GS at *
    simp [f__law_ended, start, show (0 : Nat) ≤ SZ by decide, ml, e0, v1, lg, gI, hj, el, bt, gT]
  refine ⟨ws, ys, py, hw, hlen, fun k f => hq k f, ?_⟩
  rw [ex]
  have vi' : VI (carryF vals ws) := vi.carry fun w h => (hw w h).2.2
  have eM : es m r vd ys (carryF vals ws) ws g = (pw m r ys).set vd (.dict true (mp kyV id (carryF vals ws))) ++ .list (ws.map wrV) :: g := by
    unfold es
    rw [← pw_app (by simpa using hr)]
    unfold pw
    rw [List.set_comm _ _ hn]
  rw [eM]
  refine gc_trim (by simp [pw_len]) (fun i o h => ?_) (hu _)
  by_cases q : vd = i
  · subst q
    rw [List.getElem?_set_self (by rw [pw_len]; exact hvl')] at h
    injection h with h
    rw [← h]; exact .inr (dict_under vi'.ok _)
  · rw [List.getElem?_set_ne q] at h
    unfold pw at h ⊢
    by_cases q2 : r = i
    · subst q2
      rw [List.getElem?_set_self hr] at h
      injection h with h
      rw [← h]; exact .inr (by rw [ob_under]; exact underL_ints _ _)
    · rw [List.getElem?_set_ne q2] at h ⊢; exact .inl h

end L34

namespace L34
open Py
theorem ifs_tt {P : Prog} {C : Calls} {c : E} {A B : List S} {l : Loc} {m m1 : Mem} (hc : evalE P C c l m = .ok (.bool true) m1) : execS P C (.ifs c A B) l m = execB P C A l m1 := by rw [ev_execS10, hc]; rfl
theorem ifs_ff {P : Prog} {C : Calls} {c : E} {A B : List S} {l : Loc} {m m1 : Mem} (hc : evalE P C c l m = .ok (.bool false) m1) : execS P C (.ifs c A B) l m = execB P C B l m1 := by rw [ev_execS10, hc]; rfl
theorem run_mode (d : Nat) (m : Mem) {r : Nat} (hr : r < m.length) {xs : List Int} (hp : Pl xs) (k : Ky) (v : Int) :
    ∃ (mode : List Nat) (many : Int) (ys : List Int), RO (k, mode, many) ∧ Pl ys ∧ callN P (d + 2) "_law_mode" [.ref r, kyV k, .int v] (pw m r xs) = .ok (.tup [.str mode, .int many]) (pw m r ys) := by
  rw [callN_fn e__law_mode rfl]
  have z2 : (2 : Nat) ≤ SZ := by decide
  have z3 : (3 : Nat) ≤ SZ := by decide
  have z4 : (4 : Nat) ≤ SZ := by decide
  have gI : ∀ (m : Mem) (v : Int), gc m (.ok (.int v) m) = .ok (.int v) m := fun m v => gc_same (by simp)
  have fin : ∀ {mode : List Nat} {many : Int} {zs : List Int}, (∃ t, execB P (callN P (d + 1)) f__law_mode.body (start f__law_mode.ns [.ref r, kyV k, .int v]) (pw m r xs) = .ret (.tup [.str mode, .int many]) (pw m r zs ++ t)) → gc (pw m r xs) (retOf (execB P (callN P (d + 1)) f__law_mode.body (start f__law_mode.ns [.ref r, kyV k, .int v]) (pw m r xs))) = .ok (.tup [.str mode, .int many]) (pw m r zs) := fun ⟨t, ht⟩ => by
    rw [ht]; exact gc_pwt hr xs _ t (fun n => by simp)
  obtain ⟨L1, eL1⟩ : ∃ L1 : List Val, L1 = [.str [102, 114, 101, 101], .str [112, 117, 114, 115, 101]] := ⟨_, rfl⟩
  have q3 := nmem_lstr k.2.1 [sFree, sPurse] (m := pw m r xs ++ [Ob.list [.str sFree, .str sPurse]]) (mem_new _ _)
  have k1 := fun M => ky_1 k M
  by_cases f : k.2.1 ∈ [sFree, sPurse]
  · have hf : fr k := by simpa [fr] using f
    rw [decide_eq_true f] at q3
    have q3' : cmpop .nmem (.str k.2.1) (.ref (pw m r xs).length) (pw m r xs ++ [Ob.list L1]) = some false := by rw [eL1]; exact q3
    obtain ⟨way, ys, w0, w1, py, ey⟩ := draw d (m ++ [Ob.list L1]) (r := r) (by simp; omega) hp 6 (by decide)
    obtain ⟨few, zs, f0, f1, pz, ez⟩ := draw d (m ++ [Ob.list L1]) (r := r) (by simp; omega) py 9 (by decide)
    rw [← pw_app hr, ← pw_app hr] at ey ez
    have hl : ∀ ys, (pw m r ys ++ [Ob.list L1]).length = (pw m r xs ++ [Ob.list L1]).length := fun ys => by simp [pw_len]
    by_cases a : way < 2
    · obtain ⟨mode, hm, ix⟩ : ∃ mode, (WM mode ∧ mode ≠ sTake) ∧ idxop (pw m r zs ++ [Ob.list L1] ++ [Ob.list [.str [115, 101, 101], .str [97, 100, 100]]]) (.ref (pw m r zs ++ [Ob.list L1]).length) (.int way) = some (.str mode) := by
        rw [idx_list (mem_new _ _)]
        rcases (by omega : way = 0 ∨ way = 1) with q | q <;> rw [q]
        · exact ⟨sSee, ⟨.inl rfl, by decide⟩, rfl⟩
        · exact ⟨sAdd, ⟨.inr (.inl rfl), by decide⟩, rfl⟩
      refine ⟨mode, 0, zs, ⟨hm.1, fun z => absurd z hm.2⟩, pz, fin ⟨[Ob.list L1] ++ [Ob.list [.str [115, 101, 101], .str [97, 100, 100]]], ?_⟩⟩
      rw [← List.append_assoc]
      rw [eL1] at q3' ey ez ix ⊢
      obtain ⟨A1, eA1⟩ : ∃ A1 : Mem, A1 = pw m r xs ++ [Ob.list [Val.str [102, 114, 101, 101], .str [112, 117, 114, 115, 101]]] := ⟨_, rfl⟩
      obtain ⟨A3, eA3⟩ : ∃ A3 : Mem, A3 = pw m r zs ++ [Ob.list [Val.str [102, 114, 101, 101], .str [112, 117, 114, 115, 101]]] := ⟨_, rfl⟩
      rw [← eA1] at q3' ey
      rw [← eA3] at ez ix ⊢
      generalize kyV k = KV at *
      simp [f__law_mode, start, k1, z2, ← eA1, q3', ey, ez, a, ix]
    · have mx : ∀ w : Int, ∃ t : Int, 1 ≤ t ∧ ∀ M, bltop .max [.int 1, .int w] M = .ok (.int t) M := fun w => by
        refine ⟨_, ?_, fun M => blt_max _ _ M⟩
        split <;> omega
      obtain ⟨t0, p0, et0⟩ := mx (v.fdiv 3)
      obtain ⟨t1, p1, et1⟩ := mx (v.fdiv 2)
      obtain ⟨t2, p2, et2⟩ := mx (v - 1 + (1 + few))
      obtain ⟨many, hmany, ix⟩ : ∃ many : Int, 1 ≤ many ∧ idxop (pw m r zs ++ [Ob.list L1] ++ [Ob.list [.int t0, .int (1 + few), .int t1, .int t2]]) (.ref (pw m r zs ++ [Ob.list L1]).length) (.int (way - 2)) = some (.int many) := by
        rw [idx_list (mem_new _ _)]
        rcases (by omega : way - 2 = 0 ∨ way - 2 = 1 ∨ way - 2 = 2 ∨ way - 2 = 3) with q | q | q | q <;> rw [q] <;> exact ⟨_, by omega, rfl⟩
      refine ⟨sTake, many, zs, ⟨.inr (.inr rfl), fun _ => ⟨hf, hmany⟩⟩, pz, fin ⟨[Ob.list L1] ++ [Ob.list [.int t0, .int (1 + few), .int t1, .int t2]], ?_⟩⟩
      rw [← List.append_assoc]
      rw [eL1] at q3' ey ez ix ⊢
      obtain ⟨A1, eA1⟩ : ∃ A1 : Mem, A1 = pw m r xs ++ [Ob.list [Val.str [102, 114, 101, 101], .str [112, 117, 114, 115, 101]]] := ⟨_, rfl⟩
      obtain ⟨A3, eA3⟩ : ∃ A3 : Mem, A3 = pw m r zs ++ [Ob.list [Val.str [102, 114, 101, 101], .str [112, 117, 114, 115, 101]]] := ⟨_, rfl⟩
      rw [← eA1] at q3' ey
      rw [← eA3] at ez ix ⊢
      generalize kyV k = KV at *
      simp [f__law_mode, start, k1, z2, z4, ← eA1, q3', ey, ez, a, gI, op_divI (show divOk 2 by decide), op_divI (show divOk 3 by decide), et0, et1, et2, -blt_max, ix, sTake]
  · rw [decide_eq_false f] at q3
    have q3' : cmpop .nmem (.str k.2.1) (.ref (pw m r xs).length) (pw m r xs ++ [Ob.list L1]) = some true := by rw [eL1]; exact q3
    obtain ⟨L2, eL2⟩ : ∃ L2 : List Val, L2 = [.str [115, 101, 101], .str [97, 100, 100], .str [97, 100, 100]] := ⟨_, rfl⟩
    obtain ⟨y, ys, w0, w1, py, ey⟩ := draw d (m ++ [Ob.list L1] ++ [Ob.list L2]) (r := r) (by simp; omega) hp 3 (by decide)
    rw [← pw_app (by simp; omega), ← pw_app hr, ← pw_app (by simp; omega), ← pw_app hr] at ey
    obtain ⟨mode, hm, ix⟩ : ∃ mode, (WM mode ∧ mode ≠ sTake) ∧ idxop (pw m r ys ++ [Ob.list L1] ++ [Ob.list L2]) (.ref (pw m r xs ++ [Ob.list L1]).length) (.int y) = some (.str mode) := by
      rw [show (pw m r xs ++ [Ob.list L1]).length = (pw m r ys ++ [Ob.list L1]).length by simp [pw_len], idx_list (mem_new _ _), eL2]
      rcases (by omega : y = 0 ∨ y = 1 ∨ y = 2) with q | q | q <;> rw [q]
      · exact ⟨sSee, ⟨.inl rfl, by decide⟩, rfl⟩
      · exact ⟨sAdd, ⟨.inr (.inl rfl), by decide⟩, rfl⟩
      · exact ⟨sAdd, ⟨.inr (.inl rfl), by decide⟩, rfl⟩
    refine ⟨mode, 0, ys, ⟨hm.1, fun z => absurd z hm.2⟩, py, fin ⟨[Ob.list L1] ++ [Ob.list L2], ?_⟩⟩
    rw [← List.append_assoc]
    rw [eL1, eL2] at ey ix ⊢
    rw [eL1] at q3'
    obtain ⟨A1, eA1⟩ : ∃ A1 : Mem, A1 = pw m r xs ++ [Ob.list [Val.str [102, 114, 101, 101], .str [112, 117, 114, 115, 101]]] := ⟨_, rfl⟩
    obtain ⟨A3, eA3⟩ : ∃ A3 : Mem, A3 = pw m r ys ++ [Ob.list [Val.str [102, 114, 101, 101], .str [112, 117, 114, 115, 101]]] ++ [Ob.list [Val.str [115, 101, 101], .str [97, 100, 100], .str [97, 100, 100]]] := ⟨_, rfl⟩
    rw [← eA1, ← eA3] at ey
    rw [← eA1] at q3'
    rw [← eA3, ← eA1] at ix
    rw [← eA3]
    generalize kyV k = KV at *
    simp [f__law_mode, start, k1, z2, z3, ← eA1, q3', ey, ix]


end L34

namespace L34
open Py
def rq1 (m : Mem) (r : Nat) (ys : List Int) (rs : List Rq) : Mem := pw m r ys ++ [.list (rs.map grV)]
theorem rq1_out {m : Mem} {r : Nat} (ys : List Int) (rs : List Rq) : (rq1 m r ys rs).list m.length = some (rs.map grV) := by
  unfold rq1; rw [← pw_len m r ys]; exact mem_new _ _
theorem rq1_put {m : Mem} {r : Nat} (ys : List Int) (rs : List Rq) (q : Rq) (hl : rs.length < 1000) : bmop .append (.ref m.length) [grV q] (rq1 m r ys rs) = .ok .none (rq1 m r ys (rs ++ [q])) := by
  rw [bm_app (v := grV q) (rq1_out (m := m) (r := r) ys rs) (by rw [List.length_map]; unfold SZ; omega)]
  unfold rq1
  rw [← pw_len m r ys, set_new]; simp
theorem run_requests (d : Nat) {m : Mem} {r mn vd : Nat} (hr : r < m.length) {xs : List Int} (hp : Pl xs) {menu : List Ky} (hm : m.list mn = some (menu.map kyV)) (hmr : mn ≠ r) {vals : List (Ky × Val)} (hv : m[vd]? = some (.dict true (mp kyV id vals))) (hvr : vd ≠ r) (vi : VI vals) (am : ∀ k ∈ menu, amt k) (hn : menu ≠ [] ∧ menu.length < 50) :
    ∃ (reqs : List Rq) (ys : List Int), Pl ys ∧ reqs ≠ [] ∧ reqs.length ≤ menu.length ∧ (∀ q ∈ reqs, q.1 ∈ menu ∧ RO q) ∧ (menu.Nodup → (reqs.map (·.1)).Nodup) ∧ callN P (d + 3) "_law_requests" [.ref r, .ref mn, .ref vd] (pw m r xs) = .ok (grs reqs) (pw m r ys) := by
  rw [callN_fn e__law_requests rfl]
  obtain ⟨n, en⟩ : ∃ n : Int, n = menu.length := ⟨_, rfl⟩
  have n0 : 0 < n := by
    have : menu.length ≠ 0 := fun z => hn.1 (List.eq_nil_of_length_eq_zero z)
    omega
  obtain ⟨y1, z1, a1, b1, p1, e1⟩ := draw (d + 1) m hr hp 2520 (by decide)
  obtain ⟨y2, z2, a2, b2, p2, e2⟩ := draw (d + 1) m hr p1 2520 (by decide)
  have hmp : ∀ ys, (pw m r ys).list mn = some (menu.map kyV) := fun ys => by unfold pw; rw [list_set hmr.symm]; exact hm
  have hvp : ∀ ys, (pw m r ys)[vd]? = some (.dict true (mp kyV id vals)) := fun ys => by unfold pw; rw [List.getElem?_set_ne hvr.symm]; exact hv
  have lm : ∀ ys, bltop .len [.ref mn] (pw m r ys) = .ok (.int n) (pw m r ys) := fun ys => len_list (hmp ys) (by rw [List.length_map, en])
  obtain ⟨ch, z3, a3, b3, p3, e3⟩ := draw (d + 1) m hr p2 n n0
  have gI : ∀ (m : Mem) (v : Int), gc m (.ok (.int v) m) = .ok (.int v) m := fun m v => gc_same (by simp)
  have ml : ∀ ys, (pw m r ys).length = m.length := fun ys => pw_len _ _ _
  have e0 : ∀ ys, pw m r ys ++ [Ob.list []] = rq1 m r ys [] := fun ys => rfl
  have hm1 : ∀ ys rs, (rq1 m r ys rs).list mn = some (menu.map kyV) := fun ys rs => list_app (hmp ys)
  have hv1 : ∀ ys rs, (rq1 m r ys rs)[vd]? = some (.dict true (mp kyV id vals)) := fun ys rs => get_app (hvp ys)
  obtain ⟨l', M, el, x6, hi, mask, x7, rs, ys, el1, em1, py, hl, hin, hne, hsub⟩ := for_all (chk := none) (t := .name 6) (b := execB P (callN P (d + 2)) b__law_requests_1) (xs := (List.range n.toNat).map fun (i : Nat) => .int i)
    (fun i l M => ∃ (x6 : Option Val), i ≤ menu.length ∧ ∃ mask : Int, ∃ x7 rs ys, l = [some (.ref r), some (.ref mn), some (.ref vd), some (.int mask), some (.int ch), some (.ref m.length), x6, x7] ∧ M = rq1 m r ys rs ∧ Pl ys ∧ rs.length ≤ i ∧ (∀ q ∈ rs, q.1 ∈ menu ∧ RO q) ∧ (ch < i → rs ≠ []) ∧ (rs.map (·.1)).Sublist (menu.take i))
    (fun _ _ _ _ => still_none _) (fun i x l M hx hi => by
      obtain ⟨hin, ex⟩ := rng_get hx
      obtain ⟨x6, _, mask, x7, rs, ys, el, em, py, hl, hw, hne, hsub⟩ := hi
      subst el em ex
      have hi1 : i < menu.length := by omega
      obtain ⟨k, hk⟩ : ∃ k, menu[i]? = some k := ⟨_, List.getElem?_eq_getElem hi1⟩
      have hkm : k ∈ menu := List.mem_of_getElem? hk
      obtain ⟨ii, eii⟩ : ∃ ii : Int, ii = (i : Int) := ⟨_, rfl⟩
      have g1 : ∀ ys rs, idxop (rq1 m r ys rs) (.ref mn) (.int ii) = some (kyV k) := fun ys rs => by
        rw [idx_list (hm1 ys rs), at_nat (by omega) (by rw [List.length_map]; omega)]
        have : ii.toNat = i := by omega
        simp only [this, List.getElem_map]
        rw [(List.getElem?_eq_some_iff.mp hk).2]
      refine ⟨_, asg_name _ _ _ _, ?_⟩
      rw [← eii]
      by_cases q : mask % 3 = 0 ∨ ii = ch
      · have dg := dgetD_vals (hv1 ys rs) vi (am k hkm)
        have isd := isDct_vals (hv1 ys rs)
        obtain ⟨mode, many, zs, wm, pz, ez⟩ := run_mode d (m ++ [.list (rs.map grV)]) (r := r) (by simp; omega) py k (vI vals k)
        rw [← pw_app hr, ← pw_app hr] at ez
        have ez' : callN P (d + 2) "_law_mode" [.ref r, kyV k, .int (vI vals k)] (rq1 m r ys rs) = .ok (.tup [.str mode, .int many]) (rq1 m r zs rs) := ez
        have ap := rq1_put (m := m) (r := r) zs rs (k, mode, many) (by omega)
        have rr := recv_list (f := .append) (rq1_out (m := m) (r := r) zs rs)
        have eg : grV (k, mode, many) = .tup [kyV k, .str mode, .int many] := rfl
        rw [eg] at ap
        have j0 : ∀ M, idxop M (.tup [.str mode, .int many]) (.int 0) = some (.str mode) := fun M => rfl
        have j1 : ∀ M, idxop M (.tup [.str mode, .int many]) (.int 1) = some (.int many) := fun M => rfl
        have hc : evalE P (callN P (d + 2)) (.bor (.cmp .eq (.bin .mod (.var 3) (.lit (.int 3))) (.lit (.int 0))) (.cmp .eq (.var 6) (.var 4))) [some (.ref r), some (.ref mn), some (.ref vd), some (.int mask), some (.int ch), some (.ref m.length), some (.int ii), x7] (rq1 m r ys rs) = .ok (.bool true) (rq1 m r ys rs) := by
          by_cases q1 : mask % 3 = 0
          · simp [op_modI (show (0 : Int) < 3 by decide), q1]
          · have q1' : (mask % 3 == 0) = false := by simpa using q1
            have q2 : ii = ch := q.resolve_left q1
            simp [op_modI (show (0 : Int) < 3 by decide), q1', q2]
        have ex : execB P (callN P (d + 2)) b__law_requests_1 [some (.ref r), some (.ref mn), some (.ref vd), some (.int mask), some (.int ch), some (.ref m.length), some (.int ii), x7] (rq1 m r ys rs) = .nx [some (.ref r), some (.ref mn), some (.ref vd), some (.int (mask.fdiv 3)), some (.int ch), some (.ref m.length), some (.int ii), some (.tup [.str mode, .int many])] (rq1 m r zs (rs ++ [(k, mode, many)])) := by
          unfold b__law_requests_1
          rw [ev_execB1, ifs_tt hc]
          generalize kyV k = KV at *
          generalize Val.tup [.str mode, .int many] = FV at *
          simp [g1, isd, dg, ez', j0, j1, rr, ap, show (3 : Nat) ≤ SZ by decide, op_divI (show divOk 3 by decide)]
        refine Flow.by ex ?_
        refine Flow.nx_of ⟨_, hi1, _, _, rs ++ [(k, mode, many)], zs, rfl, rfl, pz, by simp; omega, fun q hq => ?_, fun _ => by simp, by rw [take_snoc hk, List.map_append]; exact hsub.append (List.Sublist.refl _)⟩
        rcases List.mem_append.mp hq with hq | hq
        · exact hw q hq
        · rw [List.mem_singleton.mp hq]; exact ⟨hkm, wm⟩
      · have q1 : ¬ mask % 3 = 0 := fun h => q (.inl h)
        have q2 : ¬ ii = ch := fun h => q (.inr h)
        have q1' : (mask % 3 == 0) = false := by simpa using q1
        have q2' : (ii == ch) = false := by simpa using q2
        have hc : evalE P (callN P (d + 2)) (.bor (.cmp .eq (.bin .mod (.var 3) (.lit (.int 3))) (.lit (.int 0))) (.cmp .eq (.var 6) (.var 4))) [some (.ref r), some (.ref mn), some (.ref vd), some (.int mask), some (.int ch), some (.ref m.length), some (.int ii), x7] (rq1 m r ys rs) = .ok (.bool false) (rq1 m r ys rs) := by
          simp [op_modI (show (0 : Int) < 3 by decide), q1', q2']
        have ex : execB P (callN P (d + 2)) b__law_requests_1 [some (.ref r), some (.ref mn), some (.ref vd), some (.int mask), some (.int ch), some (.ref m.length), some (.int ii), x7] (rq1 m r ys rs) = .nx [some (.ref r), some (.ref mn), some (.ref vd), some (.int (mask.fdiv 3)), some (.int ch), some (.ref m.length), some (.int ii), x7] (rq1 m r ys rs) := by
          unfold b__law_requests_1
          rw [ev_execB1, ifs_ff hc]
          simp [op_divI (show divOk 3 by decide)]
        refine Flow.by ex ?_
        exact Flow.nx_of ⟨_, hi1, _, _, rs, ys, rfl, rfl, py, by omega, hw, fun h => hne (by omega), by rw [take_snoc hk]; exact hsub.trans (List.sublist_append_left _ _)⟩)
    (l := [some (.ref r), some (.ref mn), some (.ref vd), some (.int (y1 * 2520 + y2)), some (.int ch), some (.ref m.length), none, none]) (m := rq1 m r z3 []) ⟨none, Nat.zero_le _, _, none, [], z3, rfl, rfl, p3, Nat.le_refl _, (fun q hq => by cases hq), (fun h => by omega), by simp⟩
  subst el1 em1
  have hnn : ((List.range n.toNat).map fun (i : Nat) => Val.int i).length = menu.length := by rw [List.length_map, List.length_range]; omega
  rw [hnn] at hl hne hsub
  rw [List.take_length] at hsub
  have hj : -4611686018427387904 ≤ n ∧ n < 4611686018427387904 := by omega
  have lm1 : bltop .len [.ref mn] (rq1 m r z3 []) = .ok (.int n) (rq1 m r z3 []) := len_list (hm1 z3 []) (by rw [List.length_map, en])
  have bt := blt_tuple (seq_list (rq1_out (m := m) (r := r) ys rs))
  have hu : ∀ n, (grs rs).under n = true := fun n => grs_under rs n
  have gT : gc (rq1 m r ys rs) (.ok (.tup (rs.map grV)) (rq1 m r ys rs)) = .ok (.tup (rs.map grV)) (rq1 m r ys rs) := gc_same (hu _)
  have mM : ∀ z : Int, mulOk z 2520 := fun z => mul_r (by decide)
  have gP : ∀ (v : Int) (xs ys : List Int), gc (pw m r xs) (.ok (.int v) (pw m r ys)) = .ok (.int v) (pw m r ys) := fun v xs ys => gc_pw hr xs ys (fun n => by simp)
  have ex : execB P (callN P (d + 2)) f__law_requests.body (start f__law_requests.ns [.ref r, .ref mn, .ref vd]) (pw m r xs) = .ret (grs rs) (rq1 m r ys rs) := by
    show _ = Flow.ret (.tup (rs.map grV)) _
    generalize rs.map grV = WV at bt gT ⊢
    simp [f__law_requests, start, e1, e2, op_mulI (mM y1), gP, lm, e3, show (0 : Nat) ≤ SZ by decide, e0, ml, lm1, gI, hj, el, bt, gT]
  refine ⟨rs, ys, py, hne (by omega), hl, hin, fun nd => hsub.nodup nd, ?_⟩
  rw [ex]
  exact gc_pwt hr xs ys _ hu

end L34

namespace L34
open Py
/-! ### the menu -/
theorem len_str {w : List Nat} (h : w.length ≤ 100) (m : Mem) (n : Int) (hn : n = w.length) : bltop .len [.str w] m = .ok (.int n) m := by
  unfold bltop lenop
  simp only
  rw [if_pos (show w.length ≤ SZ by unfold SZ; omega), hn]
theorem idx_str {w : List Nat} (h : w.length ≤ 100) {k : Int} (h0 : 0 ≤ k) (h1 : k < w.length) : ∃ c, c ∈ w ∧ ∀ m, idxop m (.str w) (.int k) = some (.str [c]) := by
  have hl : k.toNat < w.length := by omega
  refine ⟨w[k.toNat]'hl, List.getElem_mem _, fun m => ?_⟩
  have e : idxop m (.str w) (.int k) = if w.length ≤ SZ then (atIx w k).map fun c => Val.str [c] else none := rfl
  rw [e, if_pos (by unfold SZ; omega), at_nat h0 hl]
  rfl
theorem add_str {a b : List Nat} (h : a.length + b.length ≤ 1000) (m : Mem) : binop .add (.str a) (.str b) m = .ok (.str (a ++ b)) m := by
  show (if a.length + b.length ≤ SZ then Res.ok (Val.str (a ++ b)) m else Res.err) = _
  rw [if_pos (by unfold SZ; omega)]
theorem idx_str' {w : List Nat} (h : w.length ≤ 100) {k : Int} (h0 : 0 ≤ k) (h1 : k < w.length) : ∃ c, c ∈ w ∧ w[k.toNat]? = some c ∧ ∀ m, idxop m (.str w) (.int k) = some (.str [c]) := by
  have hl : k.toNat < w.length := by omega
  refine ⟨w[k.toNat]'hl, List.getElem_mem _, List.getElem?_eq_getElem hl, fun m => ?_⟩
  have e : idxop m (.str w) (.int k) = if w.length ≤ SZ then (atIx w k).map fun c => Val.str [c] else none := rfl
  rw [e, if_pos (by unfold SZ; omega), at_nat h0 hl]
  rfl
theorem find_all : (letters.all fun c => decide (PySem.Txt.find ⟨letters.toArray⟩ ⟨[c].toArray⟩ = (c : Int) - 97)) = true := by decide +kernel
theorem letters_at : ∀ k : Fin 26, letters[k.val]? = some (97 + k.val) := by decide
theorem rng_letters : ∀ c ∈ letters, 97 ≤ c ∧ c ≤ 122 := by decide
theorem find_val {c : Nat} (h : c ∈ letters) : smop .find letters [c] = .int ((c : Int) - 97) := by
  have := of_decide_eq_true (List.all_eq_true.mp find_all c h)
  show Val.int _ = _
  rw [this]
theorem letter_val {k : Int} (h0 : 0 ≤ k) (h1 : k < 26) : (97 + k.toNat) ∈ letters ∧ ∀ m, idxop m (.str letters) (.int k) = some (.str [97 + k.toNat]) := by
  have hk : k.toNat < 26 := by omega
  have e := letters_at ⟨k.toNat, hk⟩
  have e : letters[k.toNat]? = some (97 + k.toNat) := e
  refine ⟨List.mem_of_getElem? e, fun m => ?_⟩
  obtain ⟨c, _, h2, h3⟩ := idx_str' (w := letters) (by decide) h0 (show k < (letters.length : Int) by show k < 26; exact h1)
  rw [e] at h2
  injection h2 with h2
  rw [h3, h2]
theorem run_other (d : Nat) (m : Mem) {r : Nat} (hr : r < m.length) {xs : List Int} (hp : Pl xs) {w : List Nat} (hw : Wd w) :
    ∃ (w' : List Nat) (ys : List Int), Wd w' ∧ w' ≠ w ∧ Pl ys ∧ callN P (d + 2) "_law_other" [.ref r, .str w] (pw m r xs) = .ok (.str w') (pw m r ys) := by
  rw [callN_fn e__law_other rfl]
  have hw1 := hw.hi
  have hw0 := hw.lo
  have hw2 := hw.ab
  obtain ⟨n, en⟩ : ∃ n : Int, n = w.length := ⟨_, rfl⟩
  have ln := fun m => len_str (w := w) (by omega) m n en
  have gI : ∀ (m : Mem) (v : Int), gc m (.ok (.int v) m) = .ok (.int v) m := fun m v => gc_same (by simp)
  obtain ⟨at_, z1, a1, b1, p1, e1⟩ := draw d m hr hp n (by omega)
  obtain ⟨c0, hc0, ic0, i0⟩ := idx_str' (w := w) (by omega) a1 (by omega)
  obtain ⟨f, ef, ef2⟩ : ∃ f : Int, smop .find letters [c0] = .int f ∧ f = (c0 : Int) - 97 := ⟨_, find_val (hw2 c0 hc0), rfl⟩
  obtain ⟨y2, z2, a2, b2, p2, e2⟩ := draw d m hr p1 25 (by decide)
  obtain ⟨c, hcc, hc, i1⟩ : ∃ c, c ≠ c0 ∧ c ∈ letters ∧ ∀ m, idxop m (.str letters) (.int ((f + 1 + y2) % 26)) = some (.str [c]) := by
    have lo := mod_lo (f + 1 + y2) 26
    have hi := mod_hi (f + 1 + y2) 26
    obtain ⟨l1, l2⟩ := letter_val lo hi
    refine ⟨_, ?_, l1, l2⟩
    have := rng_letters c0 (hw2 c0 hc0)
    omega
  have ef' : smop .find [97, 98, 99, 100, 101, 102, 103, 104, 105, 106, 107, 108, 109, 110, 111, 112, 113, 114, 115, 116, 117, 118, 119, 120, 121, 122] [c0] = .int f := ef
  have i1' : ∀ m, idxop m (.str [97, 98, 99, 100, 101, 102, 103, 104, 105, 106, 107, 108, 109, 110, 111, 112, 113, 114, 115, 116, 117, 118, 119, 120, 121, 122]) (.int ((f + 1 + y2) % 26)) = some (.str [c]) := i1
  have gP : ∀ (v : Int) (xs ys : List Int), gc (pw m r xs) (.ok (.int v) (pw m r ys)) = .ok (.int v) (pw m r ys) := fun v xs ys => gc_pw hr xs ys (fun n => by simp)
  have fin : ∀ {w' : List Nat} {zs : List Int}, execB P (callN P (d + 1)) f__law_other.body (start f__law_other.ns [.ref r, .str w]) (pw m r xs) = .ret (.str w') (pw m r zs) → gc (pw m r xs) (retOf (execB P (callN P (d + 1)) f__law_other.body (start f__law_other.ns [.ref r, .str w]) (pw m r xs))) = .ok (.str w') (pw m r zs) := fun h => by
    rw [h]; exact gc_pw hr xs _ (fun n => by simp)
  have last : ∀ zs, ∃ w', Wd w' ∧ w' ≠ w ∧ execB P (callN P (d + 1)) (f__law_other.body.drop 4) [some (.ref r), some (.str w), some (.str letters), some (.int at_), some (.str [c])] (pw m r zs) = .ret (.str w') (pw m r zs) := fun zs => by
    obtain ⟨A, eA⟩ : ∃ A, A = w.take at_.toNat := ⟨_, rfl⟩
    obtain ⟨B, eB⟩ : ∃ B, B = w.drop (at_.toNat + 1) := ⟨_, rfl⟩
    have hAB : A.length = at_.toNat ∧ B.length + at_.toNat + 1 = w.length := by
      rw [eA, eB, List.length_take, List.length_drop]; omega
    have s1 : ∀ m, sliceop m (.str w) none (some at_) = .ok (.str A) m := fun m => by
      show (if w.length ≤ SZ then Res.ok (Val.str (cut w none (some at_))) m else .err) = _
      rw [if_pos (by unfold SZ; omega), eA]
      congr 2
      have h1 : cutIx w.length 0 none = 0 := rfl
      have h2 : cutIx w.length w.length (some at_) = at_.toNat := by
        show (if at_ < 0 then (at_ + w.length).toNat else min at_.toNat w.length) = _
        rw [if_neg (by omega)]; omega
      unfold cut
      rw [h1, h2, List.drop_zero, Nat.sub_zero]
    have s2 : ∀ m, sliceop m (.str w) (some (at_ + 1)) none = .ok (.str B) m := fun m => by
      show (if w.length ≤ SZ then Res.ok (Val.str (cut w (some (at_ + 1)) none)) m else .err) = _
      rw [if_pos (by unfold SZ; omega), eB]
      congr 2
      have h1 : cutIx w.length w.length none = w.length := rfl
      have h2 : cutIx w.length 0 (some (at_ + 1)) = at_.toNat + 1 := by
        show (if at_ + 1 < 0 then (at_ + 1 + w.length).toNat else min (at_ + 1).toNat w.length) = _
        rw [if_neg (by omega)]; omega
      unfold cut
      rw [h1, h2]
      exact List.take_of_length_le (by rw [List.length_drop]; omega)
    have p1 := fun m => add_str (a := A) (b := [c]) (by simp; omega) m
    have p2 := fun m => add_str (a := A ++ [c]) (b := B) (by simp; omega) m
    refine ⟨A ++ [c] ++ B, ⟨by simp; omega, by simp; omega, fun x hx => ?_⟩, fun ew => ?_, ?_⟩
    rotate_left
    · have e1 : (A ++ [c] ++ B)[at_.toNat]? = some c := by
        rw [List.append_assoc, List.getElem?_append_right (by omega), hAB.1, Nat.sub_self]; rfl
      rw [ew, ic0] at e1
      injection e1 with e1
      exact hcc e1.symm
    · have p2' : ∀ m, binop .add (.str (A ++ [c])) (.str B) m = .ok (.str (A ++ c :: B)) m := fun m => by rw [p2]; simp
      simp [f__law_other, s1, s2, p1, p2']
    rcases List.mem_append.mp hx with hx | hx
    · rcases List.mem_append.mp hx with hx | hx
      · rw [eA] at hx; exact hw2 x (List.mem_of_mem_take hx)
      · rw [List.mem_singleton.mp hx]; exact hc
    · rw [eB] at hx; exact hw2 x (List.mem_of_mem_drop hx)
  have hb : f__law_other.body = f__law_other.body.take 4 ++ f__law_other.body.drop 4 := by rfl
  have hb3 : f__law_other.body.take 4 = f__law_other.body.take 3 ++ [f__law_other.body.getD 3 .dead] := by rfl
  have T1 : execB P (callN P (d + 1)) (f__law_other.body.take 3) (start f__law_other.ns [.ref r, .str w]) (pw m r xs) = .nx [some (.ref r), some (.str w), some (.str letters), some (.int at_), some (.str [c])] (pw m r z2) := by
    simp [f__law_other, start, ln, gI, e1, i0, strR, ef', e2, gP, op_modI (show (0 : Int) < 26 by decide), i1']
    rfl
  by_cases q : n < 8
  · obtain ⟨y3, z3, a3, b3, p3, e3⟩ := draw d m hr p2 2 (by decide)
    by_cases q3 : y3 = 0
    · subst q3
      have pa := fun m => add_str (a := w) (b := [c]) (by simp; omega) m
      refine ⟨w ++ [c], z3, ⟨by simp, by simp; omega, fun x hx => ?_⟩, (fun e => by have := congrArg List.length e; simp at this), p3, fin ?_⟩
      · rcases List.mem_append.mp hx with hx | hx
        · exact hw2 x hx
        · rw [List.mem_singleton.mp hx]; exact hc
      · rw [hb, execB_app, hb3, execB_app, T1, fs_nx]
        simp [f__law_other, ln, gI, q, e3, pa]
    · have q3' : (y3 == 0) = false := by simpa using q3
      obtain ⟨w', hw', hne, ew'⟩ := last z3
      refine ⟨w', z3, hw', hne, p3, fin ?_⟩
      have T2 : execB P (callN P (d + 1)) [f__law_other.body.getD 3 .dead] [some (.ref r), some (.str w), some (.str letters), some (.int at_), some (.str [c])] (pw m r z2) = .nx [some (.ref r), some (.str w), some (.str letters), some (.int at_), some (.str [c])] (pw m r z3) := by
        simp [f__law_other, ln, gI, q, e3, q3']
      rw [hb, execB_app, hb3, execB_app, T1, fs_nx, T2, fs_nx, ew']
  · obtain ⟨w', hw', hne, ew'⟩ := last z2
    refine ⟨w', z2, hw', hne, p2, fin ?_⟩
    have T2 : execB P (callN P (d + 1)) [f__law_other.body.getD 3 .dead] [some (.ref r), some (.str w), some (.str letters), some (.int at_), some (.str [c])] (pw m r z2) = .nx [some (.ref r), some (.str w), some (.str letters), some (.int at_), some (.str [c])] (pw m r z2) := by
      simp [f__law_other, ln, gI, q]
    rw [hb, execB_app, hb3, execB_app, T1, fs_nx, T2, fs_nx, ew']

end L34

namespace L34
open Py
abbrev sCame : List Nat := [99, 97, 109, 101]
abbrev sHeld : List Nat := [104, 101, 108, 100]
abbrev sOut : List Nat := [111, 117, 116]
abbrev sAway : List Nat := [97, 119, 97, 121]
abbrev sKept : List Nat := [107, 101, 112, 116]
abbrev sTill : List Nat := [116, 105, 108, 108]
abbrev sPaid : List Nat := [112, 97, 105, 100]
inductive KS : Ky → Prop
  | store (h : Int) (nm w : List Nat) (hh : 2 ≤ h ∧ h ≤ 4) (hn : nm = sFree ∨ nm = sCame ∨ nm = sHeld ∨ nm = sOut) (hw : Wd w) : KS (h, nm, [.inr w])
  | purse (n : Int) (hn : 1 ≤ n ∧ n ≤ 9) : KS (5, sPurse, [.inl n])
  | away (w : List Nat) (hw : Wd w) : KS (1, sAway, [.inr w])
  | bank (nm : List Nat) (hn : nm = sKept ∨ nm = sTill ∨ nm = sPaid) : KS (5, nm, [])
theorem KS.ko {k : Ky} (h : KS k) : KO k := by
  cases h with
  | store h nm w hh hn hw =>
    refine ⟨⟨[sWord], ?_, .cons (.word _ hw) .nil⟩, ?_, by show 1 ≤ h ∧ h ≤ 5; omega⟩
    · show tParts.lookup nm = _
      rcases hn with e | e | e | e <;> (subst e; rfl)
    · show hasN h nm = true
      rcases (by omega : h = 2 ∨ h = 3 ∨ h = 4) with q | q | q <;> (subst q; rcases hn with e | e | e | e <;> (subst e; rfl))
  | purse n hn => exact ⟨⟨[sBuyer], by rfl, .cons (.buyer _ hn) .nil⟩, by rfl, by show (1 : Int) ≤ 5 ∧ (5 : Int) ≤ 5; decide⟩
  | away w hw => exact ⟨⟨[sWord], by rfl, .cons (.word _ hw) .nil⟩, by rfl, by show (1 : Int) ≤ 1 ∧ (1 : Int) ≤ 5; decide⟩
  | bank nm hn =>
    refine ⟨⟨[], ?_, .nil⟩, ?_, by show (1 : Int) ≤ 5 ∧ (5 : Int) ≤ 5; decide⟩
    · show tParts.lookup nm = _
      rcases hn with e | e | e <;> (subst e; rfl)
    · show hasN 5 nm = true
      rcases hn with e | e | e <;> (subst e; rfl)
theorem KS.amt {k : Ky} (h : KS k) : amt k := by
  cases h with
  | store h nm w hh hn hw => show nm ∉ recN; rcases hn with e | e | e | e <;> (subst e; decide)
  | purse n hn => show sPurse ∉ recN; decide
  | away w hw => show sAway ∉ recN; decide
  | bank nm hn => show nm ∉ recN; rcases hn with e | e | e <;> (subst e; decide)
theorem lv_it : (lv : Int ⊕ List Nat → Val) = itV := by funext x; cases x <;> rfl
theorem ky_it (k : Ky) : kyV k = .tup ((kyT k).map itV) := by unfold kyV tkV; rw [lv_it]
theorem items_it : ∀ t : TK, itemsOf (t.map itV) = some t
  | [] => rfl
  | .inl i :: t => by
    show (itemsOf (t.map itV)).map _ = _
    rw [items_it t]; rfl
  | .inr s :: t => by
    show (itemsOf (t.map itV)).map _ = _
    rw [items_it t]; rfl
theorem keys_of : ∀ ks : List Ky, keysOf (ks.map kyV) = some (ks.map kyT)
  | [] => rfl
  | k :: ks => by
    rw [List.map_cons, ky_it]
    have h : keyTag ((kyT k).map itV) = true := by unfold kyT; rfl
    unfold keysOf
    rw [if_pos h, items_it, Option.bind_some, keys_of ks]; rfl
theorem pairs_none (k : Ky) (ks : List Ky) : pairsOf ((k :: ks).map kyV) = none := by
  rw [List.map_cons, ky_it]
  unfold kyT
  rfl
def un : TK → Ky
  | .inl h :: .inr nm :: r => (h, nm, r)
  | _ => (0, [], [])
theorem un_ky (k : Ky) : un (kyT k) = k := rfl
theorem sort_menu (ks : List Ky) : ∃ menu : List Ky, sortKs (ks.map kyT) = menu.map kyT ∧ menu.length = ks.length ∧ (∀ k ∈ menu, k ∈ ks) ∧ menu.Perm ks := by
  have hp := sortKs_perm (ks.map kyT)
  have hm : ∀ t ∈ sortKs (ks.map kyT), ∃ k ∈ ks, kyT k = t := fun t ht => by
    obtain ⟨k, h1, h2⟩ := List.mem_map.mp (hp.mem_iff.mp ht)
    exact ⟨k, h1, h2⟩
  refine ⟨(sortKs (ks.map kyT)).map un, ?_, by rw [List.length_map, hp.length_eq, List.length_map], fun k hk => ?_, by have := hp.map un; rw [List.map_map, show (un ∘ kyT) = id by funext k; rfl, List.map_id] at this; exact this⟩
  · rw [List.map_map]
    conv => lhs; rw [← List.map_id (sortKs (ks.map kyT))]
    refine List.map_congr_left fun t ht => ?_
    obtain ⟨k, _, e⟩ := hm t ht
    show t = kyT (un t)
    rw [← e, un_ky]
  · obtain ⟨t, ht, e⟩ := List.mem_map.mp hk
    obtain ⟨k', h1, e2⟩ := hm t ht
    rw [← e, ← e2, un_ky]; exact h1
def ShA (k : Ky) : Prop := ∃ w, k.2.2 = [.inr w]
def ShB (k : Ky) : Prop := k.2.2 = [] ∨ ∃ n, k.2.2 = [.inl n]
theorem alike_of {ks : List Ky} (h : (∀ k ∈ ks, ShA k) ∨ (∀ k ∈ ks, ShB k)) : alikeK (ks.map kyT) = true := by
  unfold alikeK
  refine List.all_eq_true.mpr fun a ha => List.all_eq_true.mpr fun b hb => ?_
  obtain ⟨k1, h1, rfl⟩ := List.mem_map.mp ha
  obtain ⟨k2, h2, rfl⟩ := List.mem_map.mp hb
  unfold kyT encK
  rcases h with h | h
  · obtain ⟨w1, e1⟩ := h k1 h1
    obtain ⟨w2, e2⟩ := h k2 h2
    rw [e1, e2]
    simp [PySem.W.alike, PySem.W.alikeAll, encI]
  · rcases h k1 h1 with e1 | ⟨n1, e1⟩ <;> rcases h k2 h2 with e2 | ⟨n2, e2⟩ <;> rw [e1, e2] <;> simp [PySem.W.alike, PySem.W.alikeAll, encI]
theorem run_sort {m : Mem} {r : Nat} {ks : List Ky} (h : m.list r = some (ks.map kyV)) (hne : ks ≠ []) (hl : ks.length < 1000) (hs : (∀ k ∈ ks, ShA k) ∨ (∀ k ∈ ks, ShB k)) : ∃ menu : List Ky, sortPR (.ref r) m = .ok (.ref m.length) (m ++ [.list (menu.map kyV)]) ∧ menu.length = ks.length ∧ (∀ k ∈ menu, k ∈ ks) ∧ menu.Perm ks := by
  obtain ⟨menu, e, h1, h2, h3⟩ := sort_menu ks
  refine ⟨menu, ?_, h1, h2, h3⟩
  cases ks with
  | nil => exact absurd rfl hne
  | cons k ks =>
    rw [sort_keys h (pairs_none k ks) (keys_of _) ⟨alike_of hs, by rw [List.length_map]; unfold SZ; omega⟩, e, List.map_map]
    have e2 : ((fun t : List (Int ⊕ List Nat) => Val.tup (t.map itV)) ∘ kyT) = kyV := by funext k; exact (ky_it k).symm
    rw [e2]
theorem gc_refp {m : Mem} {r : Nat} (hr : r < m.length) (xs ys : List Int) {g : Mem} {k : Nat} {o : Ob} (hk : m.length ≤ k) (ho : (pw m r ys ++ g)[k]? = some o) (hu : o.under m.length = true) : gc (pw m r xs) (.ok (.ref k) (pw m r ys ++ g)) = .ok (.ref m.length) (pw m r ys ++ [o]) := by
  have l1 : (pw m r xs).length = m.length := pw_len _ _ _
  have l2 : (pw m r ys).length = m.length := pw_len _ _ _
  unfold gc
  rw [l1]
  have e : (pw m r ys ++ g).take m.length = pw m r ys := by
    rw [List.take_append_of_le_length (by omega)]; exact List.take_of_length_le (by omega)
  simp only [e]
  have hc : m.length ≤ (pw m r ys ++ g).length ∧ ∀ (i : Nat) (o : Ob), (pw m r ys)[i]? = some o → (pw m r xs)[i]? = some o ∨ o.under m.length = true := by
    refine ⟨by rw [List.length_append]; omega, fun i o h => ?_⟩
    unfold pw at h ⊢
    by_cases q : r = i
    · subst q
      rw [List.getElem?_set_self hr] at h
      injection h with h
      rw [← h]; exact .inr (by rw [ob_under]; exact underL_ints _ _)
    · rw [List.getElem?_set_ne q] at h ⊢; exact .inl h
  rw [if_pos (by rw [e]; exact hc)]
  have hv : Val.under m.length (.ref k) = false := by unfold Val.under; exact decide_eq_false (Nat.not_lt.mpr hk)
  rw [hv, if_neg (by decide)]
  simp only [ho]
  rw [if_pos ⟨hu, hk⟩]

end L34

namespace L34
open Py
theorem add_list {M : Mem} {a b : Nat} {xs ys : List Val} (h1 : M.list a = some xs) (h2 : M.list b = some ys) (hl : xs.length + ys.length ≤ 1000) : binop .add (.ref a) (.ref b) M = .ok (.ref M.length) (M ++ [.list (xs ++ ys)]) := by
  unfold binop
  simp only [h1, h2]
  rw [if_pos (by unfold SZ; omega)]
def kinds4 : List (List Nat) := [sCame, sFree, sHeld, sOut]
def new4 (h : Int) (w : List Nat) : List Ky := kinds4.map fun nm => (h, nm, [.inr w])
theorem new4_ok {h : Int} (hh : 2 ≤ h ∧ h ≤ 4) {w : List Nat} (hw : Wd w) : ∀ k ∈ new4 h w, KS k ∧ k.1 = h ∧ ShA k := fun k hk => by
  unfold new4 kinds4 at hk
  simp only [List.map_cons, List.map_nil, List.mem_cons, List.not_mem_nil, or_false] at hk
  rcases hk with e | e | e | e <;> subst e
  · exact ⟨.store _ _ _ hh (.inr (.inl rfl)) hw, rfl, _, rfl⟩
  · exact ⟨.store _ _ _ hh (.inl rfl) hw, rfl, _, rfl⟩
  · exact ⟨.store _ _ _ hh (.inr (.inr (.inl rfl))) hw, rfl, _, rfl⟩
  · exact ⟨.store _ _ _ hh (.inr (.inr (.inr rfl))) hw, rfl, _, rfl⟩
theorem new4_nd (h : Int) {w1 w2 : List Nat} (hw : w1 ≠ w2) : (new4 h w1 ++ new4 h w2).Nodup := by
  have hw' : w2 ≠ w1 := hw.symm
  unfold new4 kinds4
  simp [hw, hw', sCame, sFree, sHeld, sOut]
theorem menu_step (C : Calls) (M : Mem) {k9 : Nat} {ks : List Ky} (h9 : M.list k9 = some (ks.map kyV)) (hl : ks.length < 50) (h : Int) (w : List Nat) (x0 x2 x3 x4 x5 x6 x7 x8 x11 : Option Val) :
    ∃ g k9', execB P C b__law_menu_1 [x0, some (.int h), x2, x3, x4, x5, x6, x7, x8, some (.ref k9), some (.str w), x11] M = .nx [x0, some (.int h), x2, x3, x4, x5, x6, x7, x8, some (.ref k9'), some (.str w), x11] (M ++ g) ∧ (M ++ g).list k9' = some ((ks ++ new4 h w).map kyV) := by
  obtain ⟨L4, eL4⟩ : ∃ L4 : List Val, L4 = kinds4.map .str := ⟨_, rfl⟩
  obtain ⟨M1, eM1⟩ : ∃ M1 : Mem, M1 = M ++ [.list L4] := ⟨_, rfl⟩
  have l4 : M1.list M.length = some (kinds4.map .str) := by rw [eM1, eL4]; exact mem_new _ _
  have K := comp_t Val.str (fun nm => some (kyV (h, nm, [.inr w]))) (chk := some (M.length, kinds4.map .str)) (el := compEl (.name 11) [x0, some (.int h), x2, x3, x4, x5, x6, x7, x8, some (.ref k9), some (.str w), x11] (evalE P C (.tup [(.var 1), (.var 11), (.var 10)]))) (M := M1) (by unfold still; exact l4) (L := kinds4) (fun nm _ => by
    simp [compEl, Tg.slots, wipeL, show (3 : Nat) ≤ SZ by decide, kyV, kyT, tkV, lv])
  rw [fm_some, show (kinds4.map fun nm => kyV (h, nm, [.inr w])) = (new4 h w).map kyV by unfold new4; rw [List.map_map]; rfl] at K
  have ln : (new4 h w).length = 4 := rfl
  have ce : compEnd (.ok ((new4 h w).map kyV) M1) = .ok (.ref M1.length) (M1 ++ [.list ((new4 h w).map kyV)]) := compEnd_ok (by rw [List.length_map, ln]; decide)
  obtain ⟨M2, eM2⟩ : ∃ M2 : Mem, M2 = M1 ++ [.list ((new4 h w).map kyV)] := ⟨_, rfl⟩
  have h92 : M2.list k9 = some (ks.map kyV) := by rw [eM2, eM1]; exact list_app (list_app h9)
  have hn2 : M2.list M1.length = some ((new4 h w).map kyV) := by rw [eM2]; exact mem_new _ _
  have ad := add_list h92 hn2 (by rw [List.length_map, List.length_map, ln]; omega)
  rw [← List.map_append] at ad
  rw [← eM2] at ce
  refine ⟨[.list L4] ++ [.list ((new4 h w).map kyV)] ++ [.list ((ks ++ new4 h w).map kyV)], M2.length, ?_, ?_⟩
  · rw [← List.append_assoc, ← List.append_assoc, ← eM1, ← eM2]
    rw [show L4 = [.str [99, 97, 109, 101], .str [102, 114, 101, 101], .str [104, 101, 108, 100], .str [111, 117, 116]] from eL4] at eM1
    have l4' : M1.list M.length = some [.str [99, 97, 109, 101], .str [102, 114, 101, 101], .str [104, 101, 108, 100], .str [111, 117, 116]] := l4
    have K' : compLoop (some (M.length, [.str [99, 97, 109, 101], .str [102, 114, 101, 101], .str [104, 101, 108, 100], .str [111, 117, 116]])) (compEl (.name 11) [x0, some (.int h), x2, x3, x4, x5, x6, x7, x8, some (.ref k9), some (.str w), x11] (evalE P C (.tup [(.var 1), (.var 11), (.var 10)]))) [.str [99, 97, 109, 101], .str [102, 114, 101, 101], .str [104, 101, 108, 100], .str [111, 117, 116]] M1 = .ok ((new4 h w).map kyV) M1 := K
    generalize (ks ++ new4 h w).map kyV = KV at *
    generalize (new4 h w).map kyV = NV at *
    simp [b__law_menu_1, show (4 : Nat) ≤ SZ by decide, ← eM1, l4', ↓K', ce, ad]
  · rw [← List.append_assoc, ← List.append_assoc, ← eM1, ← eM2]; exact mem_new _ _
theorem run_menu (d : Nat) (m : Mem) {r : Nat} (hr : r < m.length) {xs : List Int} (hp : Pl xs) {h : Int} (hh : 2 ≤ h ∧ h ≤ 5) :
    ∃ (menu : List Ky) (ys : List Int), Pl ys ∧ menu ≠ [] ∧ menu.length < 20 ∧ (∀ k ∈ menu, KS k ∧ k.1 = h) ∧ ((∀ k ∈ menu, ShA k) ∨ (∀ k ∈ menu, ShB k)) ∧ menu.Nodup ∧ callN P (d + 3) "_law_menu" [.ref r, .int h] (pw m r xs) = .ok (.ref m.length) (pw m r ys ++ [.list (menu.map kyV)]) := by
  rw [callN_fn e__law_menu rfl]
  obtain ⟨y1, z1, a1, b1, p1, d1⟩ := draw (d + 1) m hr hp 2520 (by decide)
  obtain ⟨y2, z2, a2, b2, p2, d2⟩ := draw (d + 1) m hr p1 2520 (by decide)
  obtain ⟨y3, z3, a3, b3, p3, d3⟩ := draw (d + 1) m hr p2 8 (by decide)
  obtain ⟨w1, hw1, ew1⟩ := run_wordL (d + 1) (pw m r z3) y1 y2 (1 + y3) (by omega)
  obtain ⟨w2, z4, hw2, hw12, p4, ew2⟩ := run_other d m hr p3 hw1
  obtain ⟨M0, eM0⟩ : ∃ M0 : Mem, M0 = m ++ [.list [.str w1, .str w2]] := ⟨_, rfl⟩
  have hr0 : r < M0.length := by rw [eM0]; simp; omega
  obtain ⟨o1, z5, a5, b5, p5, d5⟩ := draw (d + 1) M0 hr0 p4 9 (by decide)
  obtain ⟨o2, z6, a6, b6, p6, d6⟩ := draw (d + 1) M0 hr0 p5 4 (by decide)
  obtain ⟨o3, z7, a7, b7, p7, d7⟩ := draw (d + 1) M0 hr0 p6 4 (by decide)
  have ml : ∀ ys, (pw m r ys).length = m.length := fun ys => pw_len _ _ _
  have e0 : ∀ ys, pw m r ys ++ [.list [.str w1, .str w2]] = pw M0 r ys := fun ys => by rw [eM0]; exact pw_app hr _
  have hb : f__law_menu.body = f__law_menu.body.take 5 ++ (f__law_menu.body.drop 5) := by rfl
  have T1 : execB P (callN P (d + 2)) (f__law_menu.body.take 5) (start f__law_menu.ns [.ref r, .int h]) (pw m r xs) = .nx [some (.ref r), some (.int h), some (.str w1), some (.ref m.length), some (.int o1), some (.int (o1 + 1 + o2)), some (.int (o1 + 5 + o3)), none, none, none, none, none] (pw M0 r z7) := by
    simp [f__law_menu, start, d1, d2, d3, ew1, ew2, show (2 : Nat) ≤ SZ by decide, e0, ml, d5, d6, d7]
  have hM0 : ∀ g, pw M0 r z7 ++ g = pw m r z7 ++ ([.list [.str w1, .str w2]] ++ g) := fun g => by rw [← e0, List.append_assoc]
  have gI : ∀ (m : Mem) (v : Int), gc m (.ok (.int v) m) = .ok (.int v) m := fun m v => gc_same (by simp)
  have fin : ∀ {menu : List Ky} {g : Mem} {k : Nat}, execB P (callN P (d + 2)) (f__law_menu.body.drop 5) [some (.ref r), some (.int h), some (.str w1), some (.ref m.length), some (.int o1), some (.int (o1 + 1 + o2)), some (.int (o1 + 5 + o3)), none, none, none, none, none] (pw M0 r z7) = .ret (.ref k) (pw M0 r z7 ++ g) → M0.length ≤ k → (pw M0 r z7 ++ g)[k]? = some (.list (menu.map kyV)) →
      gc (pw m r xs) (retOf (execB P (callN P (d + 2)) f__law_menu.body (start f__law_menu.ns [.ref r, .int h]) (pw m r xs))) = .ok (.ref m.length) (pw m r z7 ++ [.list (menu.map kyV)]) := fun {menu g k} e1 e2 e3 => by
    rw [hb, execB_app, T1, fs_nx, e1]
    show gc (pw m r xs) (.ok (.ref k) (pw M0 r z7 ++ g)) = _
    rw [hM0] at e3 ⊢
    exact gc_refp hr xs z7 (by rw [eM0] at e2; simp at e2; omega) e3 (by rw [ob_under]; exact underL_all fun x hx => by obtain ⟨y, _, e⟩ := List.mem_map.mp hx; rw [← e]; simp)
  by_cases q : h = 5
  · subst q
    obtain ⟨N3, eN3⟩ : ∃ N3 : List Int, N3 = [o1, o1 + 1 + o2, o1 + 5 + o3] := ⟨_, rfl⟩
    obtain ⟨M1, eM1⟩ : ∃ M1 : Mem, M1 = pw M0 r z7 ++ [.list (N3.map .int)] := ⟨_, rfl⟩
    have l1 : M1.list (pw M0 r z7).length = some (N3.map .int) := by rw [eM1]; exact mem_new _ _
    have K := comp_t Val.int (fun i => some (kyV (5, sPurse, [.inl (1 + i % 9)]))) (chk := some ((pw M0 r z7).length, N3.map .int)) (el := compEl (.name 8) [some (.ref r), some (.int 5), some (.str w1), some (.ref m.length), some (.int o1), some (.int (o1 + 1 + o2)), some (.int (o1 + 5 + o3)), none, none, none, none, none] (evalE P (callN P (d + 2)) (.tup [(.lit (.int 5)), (.lit (.str [112, 117, 114, 115, 101])), (.bin .add (.lit (.int 1)) (.bin .mod (.blt .int [(.var 8)]) (.lit (.int 9))))]))) (M := M1) (by unfold still; exact l1) (L := N3) (fun i _ => by
      simp [compEl, Tg.slots, wipeL, gI, op_modI (show (0 : Int) < 9 by decide), show (3 : Nat) ≤ SZ by decide, kyV, kyT, tkV, lv])
    obtain ⟨PS3, ePS3⟩ : ∃ PS3 : List Ky, PS3 = N3.map fun i => (5, sPurse, [.inl (1 + i % 9)]) := ⟨_, rfl⟩
    rw [fm_some, show (N3.map fun i => kyV (5, sPurse, [.inl (1 + i % 9)])) = PS3.map kyV by rw [ePS3, List.map_map]; rfl] at K
    have lp : PS3.length = 3 := by rw [ePS3, List.length_map, eN3]; rfl
    have ce : compEnd (.ok (PS3.map kyV) M1) = .ok (.ref M1.length) (M1 ++ [.list (PS3.map kyV)]) := compEnd_ok (by rw [List.length_map, lp]; decide)
    obtain ⟨B3, eB3⟩ : ∃ B3 : List Ky, B3 = [(5, sKept, []), (5, sPaid, []), (5, sTill, [])] := ⟨_, rfl⟩
    obtain ⟨M2, eM2⟩ : ∃ M2 : Mem, M2 = M1 ++ [.list (PS3.map kyV)] := ⟨_, rfl⟩
    obtain ⟨M3, eM3⟩ : ∃ M3 : Mem, M3 = M2 ++ [.list (B3.map kyV)] := ⟨_, rfl⟩
    have hp3 : M3.list M1.length = some (PS3.map kyV) := by rw [eM3, eM2]; exact list_app (mem_new _ _)
    have hb3 : M3.list M2.length = some (B3.map kyV) := by rw [eM3]; exact mem_new _ _
    have lb : B3.length = 3 := by rw [eB3]; rfl
    have ad := add_list hp3 hb3 (by rw [List.length_map, List.length_map]; omega)
    rw [← List.map_append] at ad
    have okk : ∀ k ∈ PS3 ++ B3, KS k ∧ k.1 = 5 ∧ ShB k := fun k hk => by
      rcases List.mem_append.mp hk with hk | hk
      · rw [ePS3] at hk
        obtain ⟨i, _, e⟩ := List.mem_map.mp hk
        subst e
        have := mod_lo i 9
        have := mod_hi i 9
        exact ⟨.purse _ (by omega), rfl, .inr ⟨_, rfl⟩⟩
      · rw [eB3] at hk
        simp only [List.mem_cons, List.not_mem_nil, or_false] at hk
        rcases hk with e | e | e <;> subst e
        · exact ⟨.bank _ (.inl rfl), rfl, .inl rfl⟩
        · exact ⟨.bank _ (.inr (.inr rfl)), rfl, .inl rfl⟩
        · exact ⟨.bank _ (.inr (.inl rfl)), rfl, .inl rfl⟩
    have ndk : (PS3 ++ B3).Nodup := by
      rw [ePS3, eN3, eB3]
      have h1 := mod_lo o1 9
      simp only [List.map_cons, List.map_nil, List.cons_append, List.nil_append, List.nodup_cons, List.mem_cons, Prod.mk.injEq, List.cons.injEq, Sum.inl.injEq, List.not_mem_nil, or_false, not_or, and_true, true_and, not_false_eq_true, List.nodup_nil]
      refine ⟨⟨by omega, by omega, ?_⟩, ⟨by omega, ?_⟩, ?_, ?_⟩ <;> simp
    obtain ⟨menu, es, el, hin, hperm⟩ := run_sort (ks := PS3 ++ B3) (mem_new M3 _) (by intro e; have := congrArg List.length e; rw [List.length_append, lp, lb] at this; cases this) (by rw [List.length_append]; omega) (.inr fun k hk => (okk k hk).2.2)
    obtain ⟨M4, eM4⟩ : ∃ M4 : Mem, M4 = M3 ++ [.list ((PS3 ++ B3).map kyV)] := ⟨_, rfl⟩
    rw [← eM4] at ad es
    rw [← eM2] at ce
    have eG : M4 ++ [.list (menu.map kyV)] = pw M0 r z7 ++ ([.list (N3.map .int)] ++ ([.list (PS3.map kyV)] ++ ([.list (B3.map kyV)] ++ ([.list ((PS3 ++ B3).map kyV)] ++ [.list (menu.map kyV)])))) := by
      rw [eM4, eM3, eM2, eM1]; simp only [List.append_assoc]
    have lM4 : M0.length ≤ M4.length := by rw [eM4, eM3, eM2, eM1]; simp [pw_len] <;> omega
    refine ⟨menu, z7, p7, fun e => by rw [e] at el; simp at el; omega, by rw [el, List.length_append]; omega, fun k hk => ⟨(okk k (hin k hk)).1, (okk k (hin k hk)).2.1⟩, .inr fun k hk => (okk k (hin k hk)).2.2, hperm.nodup_iff.mpr ndk, fin (k := M4.length) (g := [.list (N3.map .int)] ++ ([.list (PS3.map kyV)] ++ ([.list (B3.map kyV)] ++ ([.list ((PS3 ++ B3).map kyV)] ++ [.list (menu.map kyV)])))) ?_ lM4 ?_⟩
    · rw [← eG]
      have eN : N3.map Val.int = [.int o1, .int (o1 + 1 + o2), .int (o1 + 5 + o3)] := by rw [eN3]; rfl
      have eB : B3.map kyV = [.tup [.int 5, .str [107, 101, 112, 116]], .tup [.int 5, .str [112, 97, 105, 100]], .tup [.int 5, .str [116, 105, 108, 108]]] := by rw [eB3]; rfl
      rw [eN] at eM1 l1 K
      rw [eB] at eM3
      generalize menu.map kyV = MV at *
      generalize (PS3 ++ B3).map kyV = QV at *
      generalize PS3.map kyV = NV at *
      simp [f__law_menu, show (3 : Nat) ≤ SZ by decide, show (2 : Nat) ≤ SZ by decide, ← eM1, l1, ↓K, ce, ← eM3, ad, es]
    · rw [← eG]; exact get_new _ _
  · have hh4 : 2 ≤ h ∧ h ≤ 4 := by omega
    have q' : (h == 5) = false := by simpa using q
    obtain ⟨M1, eM1⟩ : ∃ M1 : Mem, M1 = pw M0 r z7 ++ [.list []] := ⟨_, rfl⟩
    have lw0 : (pw M0 r z7).list m.length = some ([w1, w2].map .str) := by
      unfold pw; rw [list_set (by omega), eM0]; exact mem_new _ _
    have lw1 : M1.list m.length = some ([w1, w2].map .str) := by rw [eM1]; exact list_app lw0
    obtain ⟨k0, ek0⟩ : ∃ k0, k0 = (pw M0 r z7).length := ⟨_, rfl⟩
    obtain ⟨l', M, el, k9, ks, g, x10, el1, em1, hk9, hle, hin, hks⟩ := for_all (chk := some (m.length, [w1, w2].map .str)) (t := .name 10) (b := execB P (callN P (d + 2)) b__law_menu_1) (xs := [w1, w2].map .str)
      (fun i l M => ∃ k9 ks g x10, l = [some (.ref r), some (.int h), some (.str w1), some (.ref m.length), some (.int o1), some (.int (o1 + 1 + o2)), some (.int (o1 + 5 + o3)), none, none, some (.ref k9), x10, none] ∧ M = M1 ++ g ∧ (M1 ++ g).list k9 = some (ks.map kyV) ∧ ks.length = 4 * i ∧ (∀ k ∈ ks, KS k ∧ k.1 = h ∧ ShA k) ∧ ks = ([w1, w2].take i).flatMap (new4 h))
      (fun i l M hi => by obtain ⟨_, _, g, _, _, e, _⟩ := hi; subst e; unfold still; exact list_app lw1) (fun i x l M hx hi => by
        obtain ⟨k9, ks, g, x10, e1, e2, hk, hle, hin, hks⟩ := hi
        subst e1 e2
        rw [List.getElem?_map] at hx
        obtain ⟨w, hq, eq⟩ := Option.map_eq_some_iff.mp hx
        subst eq
        have hi2 : i < 2 := (List.getElem?_eq_some_iff.mp hq).1
        have hw : Wd w := by
          have := List.mem_of_getElem? hq
          simp only [List.mem_cons, List.not_mem_nil, or_false] at this
          rcases this with e | e <;> rw [e] <;> assumption
        obtain ⟨g', k9', e3, h9⟩ := menu_step (callN P (d + 2)) (M1 ++ g) hk (by omega) h w (some (.ref r)) (some (.str w1)) (some (.ref m.length)) (some (.int o1)) (some (.int (o1 + 1 + o2))) (some (.int (o1 + 5 + o3))) none none none
        refine ⟨_, asg_name _ _ _ _, ?_⟩
        refine Flow.by e3 ?_
        refine Flow.nx_of ⟨k9', ks ++ new4 h w, g ++ g', _, rfl, by rw [List.append_assoc], by rw [← List.append_assoc]; exact h9, by rw [List.length_append]; show _ + 4 = _; omega, fun k hk => ?_, by rw [take_snoc hq, List.flatMap_append, ← hks]; simp⟩
        rcases List.mem_append.mp hk with hk | hk
        · exact hin k hk
        · exact new4_ok hh4 hw k hk) (l := [some (.ref r), some (.int h), some (.str w1), some (.ref m.length), some (.int o1), some (.int (o1 + 1 + o2)), some (.int (o1 + 5 + o3)), none, none, some (.ref k0), none, none]) (m := M1) ⟨k0, [], [], none, rfl, by simp, by rw [List.append_nil, eM1, ek0]; exact mem_new _ _, rfl, (fun k hk => by cases hk), rfl⟩
    subst el1 em1
    have hle8 : ks.length = 8 := hle
    have ndk : ks.Nodup := by
      rw [hks]
      show (new4 h w1 ++ (new4 h w2 ++ [])).Nodup
      rw [List.append_nil]
      exact new4_nd h (Ne.symm hw12)
    obtain ⟨menu, es, ell, hin2, hperm⟩ := run_sort (ks := ks) hk9 (by intro e; rw [e] at hle8; simp at hle8) (by omega) (.inl fun k hk => (hin k hk).2.2)
    obtain ⟨M4, eM4⟩ : ∃ M4 : Mem, M4 = M1 ++ g := ⟨_, rfl⟩
    rw [← eM4] at es el
    have eG : M4 ++ [.list (menu.map kyV)] = pw M0 r z7 ++ ([.list []] ++ (g ++ [.list (menu.map kyV)])) := by
      rw [eM4, eM1]; simp only [List.append_assoc]
    refine ⟨menu, z7, p7, fun e => by rw [e] at ell; simp at ell; omega, by omega, fun k hk => ⟨(hin k (hin2 k hk)).1, (hin k (hin2 k hk)).2.1⟩, .inl fun k hk => (hin k (hin2 k hk)).2.2, hperm.nodup_iff.mpr ndk, fin (k := M4.length) (g := [.list []] ++ (g ++ [.list (menu.map kyV)])) ?_ (by rw [eM4, eM1]; simp [pw_len] <;> omega) ?_⟩
    · rw [← eG]
      have el' : forLoop (some (m.length, [.str w1, .str w2])) (.name 10) (execB P (callN P (d + 2)) b__law_menu_1) [.str w1, .str w2] [some (.ref r), some (.int h), some (.str w1), some (.ref m.length), some (.int o1), some (.int (o1 + 1 + o2)), some (.int (o1 + 5 + o3)), none, none, some (.ref k0), none, none] M1 = .nx [some (.ref r), some (.int h), some (.str w1), some (.ref m.length), some (.int o1), some (.int (o1 + 1 + o2)), some (.int (o1 + 5 + o3)), none, none, some (.ref k9), x10, none] M4 := el
      have lw1' : M1.list m.length = some [.str w1, .str w2] := lw1
      generalize menu.map kyV = MV at *
      simp [f__law_menu, q', show (0 : Nat) ≤ SZ by decide, ← eM1, ← ek0, lw1', el', es]
    · rw [← eG]; exact get_new _ _

end L34

namespace L34
open Py
/-! ### the start -/
def Qh (h : Int) (k : Ky) : Prop := KS k ∧ k.1 = h ∧ (True → True) ∧ (h = 5 → ShB k) ∧ (h ≠ 5 → ShA k)
def sd (m : Mem) (r : Nat) (ys : List Int) (sums : List (Ky × Val)) (g : Mem) : Mem := pw m r ys ++ .dict true (mp kyV id sums) :: g
theorem sd_draw (d : Nat) {m : Mem} {r : Nat} (hr : r < m.length) {ys : List Int} (hp : Pl ys) (sums : List (Ky × Val)) (g : Mem) (n : Int) (hn : 0 < n) : ∃ (y : Int) (zs : List Int), 0 ≤ y ∧ y < n ∧ Pl zs ∧ callN P (d + 1) "_law_draw" [.ref r, .int n] (sd m r ys sums g) = .ok (.int y) (sd m r zs sums g) := by
  obtain ⟨y, zs, a, b, c, e⟩ := draw d (m ++ .dict true (mp kyV id sums) :: g) (r := r) (by simp; omega) hp n hn
  rw [← pw_app hr, ← pw_app hr] at e
  exact ⟨y, zs, a, b, c, e⟩
theorem sd_large (d : Nat) {m : Mem} {r : Nat} (hr : r < m.length) {ys : List Int} (hp : Pl ys) (sums : List (Ky × Val)) (g : Mem) : ∃ (y : Int) (zs : List Int), 0 ≤ y ∧ Pl zs ∧ callN P (d + 2) "_law_large" [.ref r, .int 1000000] (sd m r ys sums g) = .ok (.int y) (sd m r zs sums g) := by
  obtain ⟨y, zs, a, b, c, e⟩ := run_large d (m ++ .dict true (mp kyV id sums) :: g) (r := r) (by simp; omega) hp 1000000 (by decide)
  rw [← pw_app hr, ← pw_app hr] at e
  exact ⟨y, zs, a, c, e⟩
theorem sd_app {m : Mem} {r : Nat} (ys : List Int) (sums : List (Ky × Val)) (g g' : Mem) : sd m r ys sums g ++ g' = sd m r ys sums (g ++ g') := by unfold sd; simp
theorem sd_get {m : Mem} {r : Nat} (ys : List Int) (sums : List (Ky × Val)) (g : Mem) : (sd m r ys sums g)[m.length]? = some (.dict true (mp kyV id sums)) := by
  unfold sd; rw [← pw_len m r ys]; exact get_newg _ _ _
theorem sd_set {m : Mem} {r : Nat} (ys : List Int) (sums sums' : List (Ky × Val)) (g : Mem) : (sd m r ys sums g).set m.length (.dict true (mp kyV id sums')) = sd m r ys sums' g := by
  unfold sd; rw [← pw_len m r ys, set_newg]
theorem sd_put {m : Mem} {r : Nat} (ys : List Int) (sums : List (Ky × Val)) (g : Mem) (k : Ky) (v : Val) (l : Loc) (hl : sums.length < 1000) : dputF v (.ref m.length) (kyV k) l (sd m r ys sums g) = .nx l (sd m r ys (put2 sums k v) g) := by
  have := dput_ok (l := l) (v := v) (sd_get (m := m) (r := r) ys sums g) (ky_put k) (by unfold mp; rw [List.length_map]; unfold SZ; omega)
  rw [this, show dput (mp kyV id sums) (kyV k) v = mp kyV id (put2 sums k v) from dput_mp (f := id) ky_eqv _ _ _, sd_set]
structure Sm (h : Int) (sums : List (Ky × Val)) : Prop where
  q : ∀ p ∈ sums, Qh h p.1
  c : ∀ p ∈ sums, ∃ c, p.2 = .int c
  f : ∀ p ∈ sums, fr p.1 → ∃ c, 0 ≤ c ∧ p.2 = .int c
theorem Sm.put {h : Int} {sums : List (Ky × Val)} (s : Sm h sums) {k : Ky} (hk : Qh h k) (c : Int) (hc : fr k → 0 ≤ c) : Sm h (put2 sums k (.int c)) :=
  ⟨fun p hp => by rcases put2_mem hp with e | e; exact s.q p e; rw [e]; exact hk, fun p hp => by rcases put2_mem hp with e | e; exact s.c p e; rw [e]; exact ⟨c, rfl⟩, fun p hp hf => by rcases put2_mem hp with e | e; exact s.f p e hf; rw [e] at hf ⊢; exact ⟨c, hc hf, rfl⟩⟩
theorem Sm.get {h : Int} {sums : List (Ky × Val)} (s : Sm h sums) (k : Ky) : ∃ c : Int, (look2 sums k).getD (.int 0) = .int c := by
  cases e : look2 sums k with
  | none => exact ⟨0, rfl⟩
  | some v => exact s.c _ (look2_mem e)
theorem sd_dgetD {m : Mem} {r : Nat} (ys : List Int) {h : Int} {sums : List (Ky × Val)} (s : Sm h sums) (g : Mem) (k : Ky) : ∃ c : Int, dgetDR (.ref m.length) (kyV k) (.int 0) (sd m r ys sums g) = .ok (.int c) (sd m r ys sums g) := by
  obtain ⟨c, e⟩ := s.get k
  refine ⟨c, ?_⟩
  unfold dgetDR
  simp only [dct_at (sd_get (m := m) (r := r) ys sums g)]
  rw [if_pos (ky_put _), dlook_mp ky_eqv]
  cases e2 : look2 sums k with
  | none => rw [e2] at e; rw [← e]; rfl
  | some v => rw [e2] at e; rw [← e]; rfl
theorem sd_isd {m : Mem} {r : Nat} (ys : List Int) (sums : List (Ky × Val)) (g : Mem) (k : Res Val) : isDctR (.ref m.length) (sd m r ys sums g) k = k := by unfold isDctR; simp only [dct_at (sd_get (m := m) (r := r) ys sums g)]
theorem start_tail (d : Nat) {m : Mem} {r : Nat} (hr : r < m.length) {h : Int} (hh : 2 ≤ h ∧ h ≤ 5) {k : Ky} (hk : Qh h k) {ys : List Int} (py : Pl ys) {sums : List (Ky × Val)} (s : Sm h sums) (hl : sums.length < 900) (g : Mem) (amt : Int) (hamt : fr k → 0 ≤ amt) (x1 x5 : Option Val) :
    ∃ zs sums' g' y5, Pl zs ∧ Sm h sums' ∧ sums'.length ≤ sums.length + 2 ∧ execS P (callN P (d + 2)) (b__law_start_1.getD 2 .dead) [some (.ref r), x1, some (.ref m.length), some (kyV k), some (.int amt), x5] (sd m r ys sums g) = .nx [some (.ref r), x1, some (.ref m.length), some (kyV k), some (.int amt), y5] (sd m r zs sums' g') := by
  obtain ⟨L, eL⟩ : ∃ L : List Val, L = [.str [102, 114, 101, 101], .str [111, 117, 116], .str [112, 117, 114, 115, 101]] := ⟨_, rfl⟩
  have q3 := mem_lstr k.2.1 [sFree, sOut, sPurse] (m := sd m r ys sums g ++ [.list L]) (r := (sd m r ys sums g).length) (by rw [eL]; exact mem_new _ _)
  rw [sd_app] at q3
  have wa := sd_app (m := m) (r := r) ys sums g [.list L]
  have k1 := fun M => ky_1 k M
  have k0 := fun M => ky_0 k M
  obtain ⟨y, zs, a, b, pz, ez⟩ := sd_draw (d + 1) hr py sums (g ++ [.list L]) 4 (by decide)
  by_cases f : k.2.1 ∈ [sFree, sOut, sPurse]
  · rw [decide_eq_true f] at q3
    by_cases y0 : 0 < y
    · -- it is in the start
      have f' : k.2.1 = sFree ∨ k.2.1 = sOut ∨ k.2.1 = sPurse := by simpa using f
      have p1 := fun l => sd_put (m := m) (r := r) zs sums (g ++ [.list L]) k (.int amt) l (by omega)
      have s1 := s.put hk amt hamt
      have l1 := put2_len sums k (.int amt)
      have isd := sd_isd (m := m) (r := r) zs (put2 sums k (.int amt)) (g ++ [.list L])
      have pe : ∀ M, cmpop .ne (.str k.2.1) (.str [112, 117, 114, 115, 101]) M = some (!decide (k.2.1 = sPurse)) := fun M => ne_str _ _ M
      by_cases p : k.2.1 = sPurse
      · have hk5 : h = 5 := by
          obtain ⟨ks, e, _⟩ := hk
          cases ks with
          | store h' nm w hh' hn hw =>
            exfalso
            have p : nm = sPurse := p
            rcases hn with e | e | e | e <;> (rw [e] at p; exact absurd p (by decide))
          | purse n hn => exact e.symm
          | away w hw => exfalso; revert p; show ¬ sAway = sPurse; decide
          | bank nm hn => exfalso; rcases hn with e | e | e <;> (subst e; revert p; show ¬ _ = sPurse; decide)
        have hq : Qh h (5, sPaid, []) := ⟨.bank _ (.inr (.inr rfl)), hk5.symm, fun _ => trivial, fun _ => .inl rfl, fun z => absurd hk5 z⟩
        obtain ⟨c, ec⟩ := sd_dgetD (m := m) (r := r) zs s1 (g ++ [.list L]) (5, sPaid, [])
        have p2 := fun l => sd_put (m := m) (r := r) zs (put2 sums k (.int amt)) (g ++ [.list L]) (5, sPaid, []) (.int (c + amt)) l (by omega)
        have l2 := put2_len (put2 sums k (.int amt)) (5, sPaid, []) (.int (c + amt))
        have pe' : ∀ M, cmpop .ne (.str k.2.1) (.str [112, 117, 114, 115, 101]) M = some false := fun M => by rw [pe, decide_eq_true p]; rfl
        refine ⟨zs, _, g ++ [.list L], some (kyV (5, sPaid, [])), pz, s1.put hq (c + amt) (fun f => by rcases f with f | f; exact absurd (show sPaid = sFree from f) (by decide); exact absurd (show sPaid = sPurse from f) (by decide)), by omega, ?_⟩
        have ek : kyV (5, sPaid, []) = .tup [.int 5, .str [112, 97, 105, 100]] := rfl
        rw [ek] at ec p2 ⊢
        rw [eL] at wa q3 ez p1 isd ec p2 ⊢
        generalize kyV k = KV at *
        simp [b__law_start_1, k1, show (3 : Nat) ≤ SZ by decide, show (2 : Nat) ≤ SZ by decide, wa, q3, ez, y0, p1, pe', isd, ec, p2]
      · obtain ⟨w, hw, ek2, hq, k2⟩ : ∃ w, Wd w ∧ k.2.2 = [.inr w] ∧ Qh h (k.1, sCame, [.inr w]) ∧ ∀ M, idxop M (kyV k) (.int 2) = some (.str w) := by
          obtain ⟨ks, e, _, e5, e6⟩ := hk
          cases ks with
          | store h' nm w hh' hn hw =>
            refine ⟨w, hw, rfl, ⟨.store _ _ _ hh' (.inr (.inl rfl)) hw, e, fun _ => trivial, fun z => ?_, fun _ => ⟨w, rfl⟩⟩, fun M => ?_⟩
            · have : h' = h := e; omega
            · show atIx _ 2 = _
              rw [at_nat (by decide) (by simp [kyT])]; rfl
          | purse n hn => exact absurd rfl p
          | away w hw => exfalso; rcases f' with f | f | f <;> (revert f; show ¬ sAway = _; decide)
          | bank nm hn => exfalso; rcases hn with e | e | e <;> (subst e; rcases f' with f | f | f <;> (revert f; show ¬ _ = _; decide))
        obtain ⟨c, ec⟩ := sd_dgetD (m := m) (r := r) zs s1 (g ++ [.list L]) (k.1, sCame, [.inr w])
        have p2 := fun l => sd_put (m := m) (r := r) zs (put2 sums k (.int amt)) (g ++ [.list L]) (k.1, sCame, [.inr w]) (.int (c + amt)) l (by omega)
        have l2 := put2_len (put2 sums k (.int amt)) (k.1, sCame, [.inr w]) (.int (c + amt))
        have pe' : ∀ M, cmpop .ne (.str k.2.1) (.str [112, 117, 114, 115, 101]) M = some true := fun M => by rw [pe, decide_eq_false p]; rfl
        refine ⟨zs, _, g ++ [.list L], some (kyV (k.1, sCame, [.inr w])), pz, s1.put hq (c + amt) (fun f => by rcases f with f | f; exact absurd (show sCame = sFree from f) (by decide); exact absurd (show sCame = sPurse from f) (by decide)), by omega, ?_⟩
        have ek : kyV (k.1, sCame, [.inr w]) = .tup [.int k.1, .str [99, 97, 109, 101], .str w] := rfl
        rw [ek] at ec p2 ⊢
        rw [eL] at wa q3 ez p1 isd ec p2 ⊢
        generalize kyV k = KV at *
        simp [b__law_start_1, k1, k0, k2, show (3 : Nat) ≤ SZ by decide, show (2 : Nat) ≤ SZ by decide, wa, q3, ez, y0, p1, pe', isd, ec, p2]
    · refine ⟨zs, sums, g ++ [.list L], x5, pz, s, by omega, ?_⟩
      rw [eL] at wa q3 ez ⊢
      generalize kyV k = KV at *
      simp [b__law_start_1, k1, show (3 : Nat) ≤ SZ by decide, wa, q3, ez, y0]
  · rw [decide_eq_false f] at q3
    refine ⟨ys, sums, g ++ [.list L], x5, py, s, by omega, ?_⟩
    rw [eL] at wa q3 ⊢
    generalize kyV k = KV at *
    simp [b__law_start_1, k1, show (3 : Nat) ≤ SZ by decide, wa, q3]

end L34

namespace L34
open Py
theorem sd_len {m : Mem} {r : Nat} (ys zs : List Int) (s1 s2 : List (Ky × Val)) (g : Mem) : (sd m r ys s1 g).length = (sd m r zs s2 g).length := by unfold sd; simp [pw_len]
theorem start_step (d : Nat) {m : Mem} {r : Nat} (hr : r < m.length) {h : Int} (hh : 2 ≤ h ∧ h ≤ 5) {k : Ky} (hk : Qh h k) {ys : List Int} (py : Pl ys) {sums : List (Ky × Val)} (s : Sm h sums) (hl : sums.length < 900) (g : Mem) (x1 x4 x5 : Option Val) :
    ∃ zs sums' g' y4 y5, Pl zs ∧ Sm h sums' ∧ sums'.length ≤ sums.length + 2 ∧ execB P (callN P (d + 2)) b__law_start_1 [some (.ref r), x1, some (.ref m.length), some (kyV k), x4, x5] (sd m r ys sums g) = .nx [some (.ref r), x1, some (.ref m.length), some (kyV k), y4, y5] (sd m r zs sums' g') := by
  obtain ⟨a1, z1, a10, _, p1, e1⟩ := sd_draw (d + 1) hr py sums g 12 (by decide)
  obtain ⟨a2, z2, a20, p2, e2⟩ := sd_large d hr p1 sums g
  obtain ⟨L, eL⟩ : ∃ L : List Val, L = [.int a1, .int a2] := ⟨_, rfl⟩
  obtain ⟨a3, z3, _, _, p3, e3⟩ := sd_draw (d + 1) hr p2 sums (g ++ [.list L]) 5 (by decide)
  have wa := sd_app (m := m) (r := r) z2 sums g [.list L]
  have gI : ∀ (m : Mem) (v : Int), gc m (.ok (.int v) m) = .ok (.int v) m := fun m v => gc_same (by simp)
  obtain ⟨am, ham, ix⟩ : ∃ am : Int, 0 ≤ am ∧ idxop (sd m r z3 sums (g ++ [.list L])) (.ref (sd m r z2 sums g).length) (.int (if a3 = 0 then 1 else 0)) = some (.int am) := by
    rw [sd_len z2 z3 sums sums g, ← sd_app, idx_list (mem_new _ _), eL]
    by_cases q : a3 = 0
    · rw [if_pos q]; exact ⟨_, a20, rfl⟩
    · rw [if_neg q]; exact ⟨_, a10, rfl⟩
  obtain ⟨G1, eG1⟩ : ∃ G1 : Mem, G1 = g ++ [.list L] := ⟨_, rfl⟩
  rw [← eG1] at e3 wa ix
  have gM : gc (sd m r z2 sums G1) (.ok (.int (if a3 = 0 then 1 else 0)) (sd m r z3 sums G1)) = .ok (.int (if a3 = 0 then 1 else 0)) (sd m r z3 sums G1) := by
    have hr' : r < (m ++ .dict true (mp kyV id sums) :: G1).length := by simp; omega
    have := gc_pw hr' z2 z3 (v := .int (if a3 = 0 then 1 else 0)) (fun n => by simp)
    rw [← pw_app hr, ← pw_app hr] at this
    exact this
  have hb : b__law_start_1 = b__law_start_1.take 1 ++ ([b__law_start_1.getD 1 .dead] ++ [b__law_start_1.getD 2 .dead]) := by rfl
  have k1 := fun M => ky_1 k M
  have T1 : execB P (callN P (d + 2)) (b__law_start_1.take 1) [some (.ref r), x1, some (.ref m.length), some (kyV k), x4, x5] (sd m r ys sums g) = .nx [some (.ref r), x1, some (.ref m.length), some (kyV k), some (.int am), x5] (sd m r z3 sums G1) := by
    rw [eL] at wa
    generalize kyV k = KV at *
    simp [b__law_start_1, e1, e2, show (2 : Nat) ≤ SZ by decide, wa, e3, gM, ix]
  have T2 : ∃ z4 am', Pl z4 ∧ (fr k → 0 ≤ am') ∧ execS P (callN P (d + 2)) (b__law_start_1.getD 1 .dead) [some (.ref r), x1, some (.ref m.length), some (kyV k), some (.int am), x5] (sd m r z3 sums G1) = .nx [some (.ref r), x1, some (.ref m.length), some (kyV k), some (.int am'), x5] (sd m r z4 sums G1) := by
    have q1 : ∀ M, cmpop .eq (.str k.2.1) (.str [111, 117, 116]) M = some (decide (k.2.1 = sOut)) := fun M => eq_str _ _ M
    by_cases o : k.2.1 = sOut
    · have q1' : ∀ M, cmpop .eq (.str k.2.1) (.str [111, 117, 116]) M = some true := fun M => by rw [q1, decide_eq_true o]
      obtain ⟨a4, z4, _, _, p4, e4⟩ := sd_draw (d + 1) hr p3 sums G1 2 (by decide)
      by_cases z : a4 = 0
      · subst z
        refine ⟨z4, -am, p4, (fun f => by rcases f with f | f <;> (rw [f] at o; exact absurd o (by decide))), ?_⟩
        generalize kyV k = KV at *
        simp [b__law_start_1, k1, q1', e4]
      · have z' : (a4 == 0) = false := by simpa using z
        refine ⟨z4, am, p4, (fun _ => ham), ?_⟩
        generalize kyV k = KV at *
        simp [b__law_start_1, k1, q1', e4, z']
    · have q1' : ∀ M, cmpop .eq (.str k.2.1) (.str [111, 117, 116]) M = some false := fun M => by rw [q1, decide_eq_false o]
      refine ⟨z3, am, p3, (fun _ => ham), ?_⟩
      generalize kyV k = KV at *
      simp [b__law_start_1, k1, q1']
  obtain ⟨z4, am', p4, ham', e4⟩ := T2
  obtain ⟨zs, sums', g', y5, pz, s', hl', e5⟩ := start_tail d hr hh hk p4 s hl G1 am' ham' x1 x5
  refine ⟨zs, sums', g', some (.int am'), y5, pz, s', hl', ?_⟩
  rw [hb, execB_app, T1, fs_nx]
  show execB P (callN P (d + 2)) [_, _] _ _ = _
  rw [ev_execB1, e4, fs_nx, ev_execB1, e5]; rfl
def cf (sums : List (Ky × Val)) (k : Ky) : Int := match look2 sums k with
  | some (.int c) => c
  | _ => 0
structure StOk (h : Int) (ws : List (Ky × Val)) : Prop where
  k : ∀ w ∈ ws, KS w.1 ∧ w.1.1 = h
  c : ∀ w ∈ ws, ∃ c, w.2 = .int c
  f : ∀ w ∈ ws, fr w.1 → ∃ c, 0 ≤ c ∧ w.2 = .int c
  n : ws.length < 100
theorem run_startL (d : Nat) {m : Mem} {r mn : Nat} (hr : r < m.length) {xs : List Int} (hp : Pl xs) {h : Int} (hh : 2 ≤ h ∧ h ≤ 5) {menu : List Ky} (hm : m.list mn = some (menu.map kyV)) (hmr : mn ≠ r) (hq : ∀ k ∈ menu, Qh h k) (hn : menu.length < 20) :
    ∃ (ws : List (Ky × Val)) (ys : List Int), Pl ys ∧ StOk h ws ∧ callN P (d + 3) "_law_start" [.ref r, .ref mn] (pw m r xs) = .ok (wrs ws) (pw m r ys) := by
  rw [callN_fn e__law_start rfl]
  have hmp : ∀ ys sums g, (sd m r ys sums g).list mn = some (menu.map kyV) := fun ys sums g => by
    unfold sd; refine list_app ?_; unfold pw; rw [list_set hmr.symm]; exact hm
  have ml : (pw m r xs).length = m.length := pw_len _ _ _
  have e0 : pw m r xs ++ [Ob.dict true []] = sd m r xs [] [] := rfl
  obtain ⟨l', M, el, hin, ys, sums, g, x3, x4, x5, el1, em1, py, s, hl⟩ := for_all (chk := some (mn, menu.map kyV)) (t := .name 3) (b := execB P (callN P (d + 2)) b__law_start_1) (xs := menu.map kyV)
    (fun i l M => i ≤ menu.length ∧ ∃ ys sums g x3 x4 x5, l = [some (.ref r), some (.ref mn), some (.ref m.length), x3, x4, x5] ∧ M = sd m r ys sums g ∧ Pl ys ∧ Sm h sums ∧ sums.length ≤ 2 * i)
    (fun i l M hi => by obtain ⟨_, ys, sums, g, _, _, _, _, e, _⟩ := hi; subst e; unfold still; exact hmp _ _ _) (fun i x l M hx hi => by
      obtain ⟨_, ys, sums, g, x3, x4, x5, e1, e2, py, s, hl⟩ := hi
      subst e1 e2
      rw [List.getElem?_map] at hx
      obtain ⟨k, hk, eq⟩ := Option.map_eq_some_iff.mp hx
      subst eq
      have hil : i < menu.length := (List.getElem?_eq_some_iff.mp hk).1
      obtain ⟨zs, sums', g', y4, y5, pz, s', hl', e3⟩ := start_step d hr hh (hq k (List.mem_of_getElem? hk)) py s (by omega) g (some (.ref mn)) x4 x5
      refine ⟨_, asg_name _ _ _ _, ?_⟩
      refine Flow.by e3 ?_
      exact Flow.nx_of ⟨hil, zs, sums', g', _, _, _, rfl, rfl, pz, s', by omega⟩) (l := [some (.ref r), some (.ref mn), some (.ref m.length), none, none, none]) (m := sd m r xs [] []) ⟨Nat.zero_le _, xs, [], [], none, none, none, rfl, rfl, hp, ⟨(fun p hp => by cases hp), (fun p hp => by cases hp), (fun p hp => by cases hp)⟩, Nat.le_refl _⟩
  subst el1 em1
  rw [List.length_map] at hl
  -- the sums, sorted
  obtain ⟨keys, ekeys, lk, hkeys, _⟩ := sort_menu (sums.map (·.1))
  have hsh : (∀ k ∈ sums.map (·.1), ShA k) ∨ (∀ k ∈ sums.map (·.1), ShB k) := by
    by_cases q : h = 5
    · exact .inr fun k hk => by obtain ⟨p, hp, e⟩ := List.mem_map.mp hk; rw [← e]; exact (s.q p hp).2.2.2.1 q
    · exact .inl fun k hk => by obtain ⟨p, hp, e⟩ := List.mem_map.mp hk; rw [← e]; exact (s.q p hp).2.2.2.2 q
  have emp : (mp kyV id sums).map (·.1) = (sums.map (·.1)).map kyV := by unfold mp; rw [List.map_map, List.map_map]; rfl
  have so := sort_dict (sd_get (m := m) (r := r) ys sums g) (ts := (sums.map (·.1)).map kyT) (by rw [emp]; exact keys_of _) ⟨alike_of hsh, by rw [List.length_map, List.length_map]; unfold SZ; omega⟩
  rw [ekeys, List.map_map, show ((fun t : List (Int ⊕ List Nat) => Val.tup (t.map itV)) ∘ kyT) = kyV by funext k; exact (ky_it k).symm] at so
  obtain ⟨M1, eM1⟩ : ∃ M1 : Mem, M1 = sd m r ys sums g ++ [.list (keys.map kyV)] := ⟨_, rfl⟩
  have lM1 : M1.list (sd m r ys sums g).length = some (keys.map kyV) := by rw [eM1]; exact mem_new _ _
  have dM1 : M1[m.length]? = some (.dict true (mp kyV id sums)) := by rw [eM1]; exact get_app (sd_get _ _ _)
  have K := comp_t kyV (fun k => if (!decide (cf sums k = 0)) = true then some (wrV (k, .int (cf sums k))) else none) (chk := some ((sd m r ys sums g).length, keys.map kyV)) (el := compElIf (.name 3) [some (.ref r), some (.ref mn), some (.ref m.length), x3, x4, x5] (evalE P (callN P (d + 2)) (.cmp .ne (.dget (.var 2) (.var 3)) (.lit (.int 0)))) (evalE P (callN P (d + 2)) (.tup [(.var 3), (.dget (.var 2) (.var 3))]))) (M := M1) (by unfold still; exact lM1) (L := keys) (fun k hk => by
    have hks := hkeys k hk
    obtain ⟨p, hp, ep⟩ := List.mem_map.mp hks
    have hsome : ∃ v, look2 sums k = some v := by
      unfold look2
      cases e : sums.find? fun p => decide (p.1 = k) with
      | none => exact absurd (decide_eq_true ep) (by simpa using List.find?_eq_none.mp e p hp)
      | some q => exact ⟨q.2, rfl⟩
    obtain ⟨v, ev⟩ := hsome
    obtain ⟨c, ec⟩ := s.c _ (look2_mem ev)
    have ec : v = .int c := ec
    subst ec
    have dg := dget_ok dM1 (ky_put k) (v := .int c) (by rw [dlook_mp ky_eqv, ev]; rfl)
    have hc : cf sums k = c := by unfold cf; rw [ev]
    rw [hc]
    have ew : wrV (k, .int c) = .tup [kyV k, .int c] := rfl
    rw [ew]
    generalize kyV k = KV at *
    by_cases q : c = 0
    · subst q; simp [compElIf, Tg.slots, wipeL, dg]
    · have q' : (c == 0) = false := by simpa using q
      simp [compElIf, Tg.slots, wipeL, dg, q, q', show (2 : Nat) ≤ SZ by decide])
  rw [fm_if (fun k => wrV (k, .int (cf sums k))) (fun k => !decide (cf sums k = 0))] at K
  obtain ⟨ws, ews⟩ : ∃ ws : List (Ky × Val), ws = (keys.filter fun k => !decide (cf sums k = 0)).map fun k => (k, .int (cf sums k)) := ⟨_, rfl⟩
  rw [show ((keys.filter fun k => !decide (cf sums k = 0)).map fun k => wrV (k, .int (cf sums k))) = ws.map wrV by rw [ews, List.map_map]; rfl] at K
  have lws : ws.length ≤ sums.length := by
    rw [ews, List.length_map]; refine Nat.le_trans (List.length_filter_le _ _) ?_; rw [lk, List.length_map]; exact Nat.le_refl _
  have hws : ∀ w ∈ ws, ((KS w.1 ∧ w.1.1 = h) ∧ (fr w.1 → ∃ c, 0 ≤ c ∧ w.2 = .int c)) ∧ ∃ c, w.2 = .int c := fun w hw => by
    rw [ews] at hw
    obtain ⟨k, hk, e⟩ := List.mem_map.mp hw
    obtain ⟨p, hp, ep⟩ := List.mem_map.mp (hkeys k (List.mem_filter.mp hk).1)
    have := s.q p hp
    rw [← e]
    rw [ep] at this
    refine ⟨⟨⟨this.1, this.2.1⟩, fun hf => ⟨cf sums k, ?_, rfl⟩⟩, _, rfl⟩
    unfold cf
    cases e : look2 sums k with
    | none => exact Int.le_refl _
    | some v =>
      obtain ⟨c, c0, ec⟩ := s.f _ (look2_mem e) hf
      have ec : v = .int c := ec
      subst ec; exact c0
  have ce : compEnd (.ok (ws.map wrV) M1) = .ok (.ref M1.length) (M1 ++ [.list (ws.map wrV)]) := compEnd_ok (by rw [List.length_map]; unfold SZ; omega)
  have bt := blt_tuple (seq_list (mem_new M1 (ws.map wrV)))
  have hu : ∀ n, (wrs ws).under n = true := fun n => by
    unfold wrs; rw [under_tup]; exact underL_all fun x hx => by
      obtain ⟨w, hw, e⟩ := List.mem_map.mp hx
      obtain ⟨c, ec⟩ := (hws w hw).2
      rw [← e]; unfold wrV; rw [ec]; simp
  have gT : gc (sd m r ys sums g) (.ok (.tup (ws.map wrV)) (M1 ++ [.list (ws.map wrV)])) = .ok (.tup (ws.map wrV)) (sd m r ys sums g) := by
    rw [eM1, List.append_assoc]; exact gc_app (hu _)
  have ex : execB P (callN P (d + 2)) f__law_start.body (start f__law_start.ns [.ref r, .ref mn]) (pw m r xs) = .ret (wrs ws) (sd m r ys sums g) := by
    show _ = Flow.ret (.tup (ws.map wrV)) _
    have hm0 := hmp xs [] []
    generalize ws.map wrV = WV at *
    generalize menu.map kyV = MV at *
    generalize keys.map kyV = KV at *
    simp [f__law_start, start, ml, e0, hm0, el, so, ← eM1, lM1, ↓K, ce, bt, gT]
  refine ⟨ws, ys, py, ⟨fun w hw => (hws w hw).1.1, fun w hw => (hws w hw).2, fun w hw => (hws w hw).1.2, by omega⟩, ?_⟩
  rw [ex]
  exact gc_pwt hr xs ys _ hu

end L34

namespace L34
open Py
/-! ### the law's values, its looks -/
def putF (ws : List (Ky × Val)) : List (Ky × Val) := ws.foldl (fun l w => put2 l w.1 w.2) []
theorem putF_snoc (ws : List (Ky × Val)) (w : Ky × Val) : putF (ws ++ [w]) = put2 (putF ws) w.1 w.2 := by unfold putF; rw [List.foldl_append]; rfl
theorem putF_start {h : Int} {ws : List (Ky × Val)} (hw : ∀ w ∈ ws, w.1.1 = h) : putF ws = startF h ws := by
  unfold putF startF
  have : ∀ (ws : List (Ky × Val)) (acc : List (Ky × Val)), (∀ w ∈ ws, w.1.1 = h) → ws.foldl (fun l w => put2 l w.1 w.2) acc = ws.foldl (fun l w => if w.1.1 = h then put2 l w.1 w.2 else l) acc := by
    intro ws
    induction ws with
    | nil => intro acc _; rfl
    | cons w ws ih =>
      intro acc hw
      rw [List.foldl_cons, List.foldl_cons, if_pos (hw w List.mem_cons_self)]
      exact ih _ fun z hz => hw z (List.mem_cons_of_mem _ hz)
  exact this ws [] hw
theorem putF_mem {ws : List (Ky × Val)} {p : Ky × Val} (h : p ∈ putF ws) : p ∈ ws := by
  unfold putF at h
  have : ∀ (ws : List (Ky × Val)) (acc : List (Ky × Val)), p ∈ ws.foldl (fun l w => put2 l w.1 w.2) acc → p ∈ acc ∨ p ∈ ws := by
    intro ws
    induction ws with
    | nil => intro acc h; exact .inl h
    | cons w ws ih =>
      intro acc h
      rw [List.foldl_cons] at h
      rcases ih _ h with q | q
      · rcases put2_mem q with q | q
        · exact .inl q
        · exact .inr (by rw [q]; exact List.mem_cons_self)
      · exact .inr (List.mem_cons_of_mem _ q)
  rcases this ws [] h with q | q
  · cases q
  · exact q
theorem putF_len (ws : List (Ky × Val)) : (putF ws).length ≤ ws.length := by
  unfold putF
  have : ∀ (ws : List (Ky × Val)) (acc : List (Ky × Val)), (ws.foldl (fun l w => put2 l w.1 w.2) acc).length ≤ acc.length + ws.length := by
    intro ws
    induction ws with
    | nil => intro acc; exact Nat.le_refl _
    | cons w ws ih =>
      intro acc
      rw [List.foldl_cons, List.length_cons]
      have h1 := ih (put2 acc w.1 w.2)
      have h2 := put2_len acc w.1 w.2
      omega
  have := this ws []
  simpa using this
theorem run_values (d : Nat) (m : Mem) {ws : List (Ky × Val)} (hc : ∀ w ∈ ws, ∃ c, w.2 = .int c) (hl : ws.length < 1000) : callN P (d + 1) "_law_values" [wrs ws] m = .ok (.ref m.length) (m ++ [.dict true (mp kyV id (putF ws))]) := by
  rw [callN_fn e__law_values rfl]
  obtain ⟨l', m1, el, _, x2, el1, em1⟩ := for_all (chk := none) (t := .name 2) (b := execB P (callN P d) b__law_values_1) (xs := ws.map wrV)
    (fun i l M => i ≤ ws.length ∧ ∃ x2, l = [some (wrs ws), some (.ref m.length), x2] ∧ M = m ++ [.dict true (mp kyV id (putF (ws.take i)))])
    (fun _ _ _ _ => still_none _) (fun i x l M hx hi => by
      obtain ⟨_, x2, e1, e2⟩ := hi
      subst e1 e2
      rw [List.getElem?_map] at hx
      obtain ⟨w, hq, eq⟩ := Option.map_eq_some_iff.mp hx
      subst eq
      have hil : i < ws.length := (List.getElem?_eq_some_iff.mp hq).1
      rw [take_snoc hq, putF_snoc]
      have hle := putF_len (ws.take i)
      have htl : (ws.take i).length ≤ ws.length := by rw [List.length_take]; exact Nat.min_le_right _ _
      generalize putF (ws.take i) = vs at hle ⊢
      refine ⟨_, asg_name _ _ _ _, ?_⟩
      have dp := dput_ok (m := m ++ [.dict true (mp kyV id vs)]) (k := m.length) (l := [some (wrs ws), some (.ref m.length), some (wrV w)]) (v := w.2) (get_new _ _) (ky_put w.1) (by unfold mp; rw [List.length_map]; unfold SZ; omega)
      rw [show dput (mp kyV id vs) (kyV w.1) w.2 = mp kyV id (put2 vs w.1 w.2) from dput_mp (f := id) ky_eqv _ _ _, set_new] at dp
      have i0 : ∀ M, idxop M (wrV w) (.int 0) = some (kyV w.1) := fun M => rfl
      have i1 : ∀ M, idxop M (wrV w) (.int 1) = some w.2 := fun M => rfl
      refine Flow.by (r' := .nx [some (wrs ws), some (.ref m.length), some (wrV w)] (m ++ [.dict true (mp kyV id (put2 vs w.1 w.2))])) (by
        generalize wrV w = WV at *
        generalize wrs ws = WS at *
        simp [b__law_values_1, i0, i1, dp]) ?_
      exact Flow.nx_of ⟨hil, _, rfl, rfl⟩) (l := [some (wrs ws), some (.ref m.length), none]) (m := m ++ [.dict true []]) ⟨Nat.zero_le _, none, rfl, rfl⟩
  subst el1 em1
  rw [List.length_map, List.take_length] at el
  have eI : ∀ M, evalI P (callN P d) (.seq (.var 0)) [some (wrs ws), some (.ref m.length), none] M = .ok (ws.map wrV, none) M := fun M => by simp [wrs]
  have ex : execB P (callN P d) f__law_values.body (start f__law_values.ns [wrs ws]) m = .ret (.ref m.length) (m ++ [.dict true (mp kyV id (putF ws))]) := by
    generalize wrs ws = WS at *
    simp [f__law_values, start, ↓eI, el]
  rw [ex]
  refine gc_ref (Nat.le_refl _) (get_new _ _) (dict_under (fun p hp => ?_) _)
  obtain ⟨c, e⟩ := hc p (putF_mem hp)
  rw [e]; rfl
theorem tup_okk {α : Type} (f : α → Val) (l : List α) (hl : l.length < 100000) (h : ∀ x, okk (f x) = true) : okk (.tup (l.map f)) = true := by
  unfold okk
  rw [okkL_all fun x hx => by obtain ⟨y, _, e⟩ := List.mem_map.mp hx; rw [← e]; exact h y, Bool.and_true]
  exact decide_eq_true (by rw [List.length_map]; omega)
theorem id_okk (p : Id) : okk (pv p) = true := by rw [pv_tk]; exact tk_okk (by simp)
theorem tup_dp {α : Type} (f : α → Val) (l : List α) (n : Nat) (h : ∀ x, (f x).depth ≤ n) : (Val.tup (l.map f)).depth ≤ n + 1 := by
  rw [dp_tup]
  have := dpL_all (n := n) (xs := l.map f) fun x hx => by obtain ⟨y, _, e⟩ := List.mem_map.mp hx; rw [← e]; exact h y
  omega

end L34

namespace L34
open Py
/-! ### the law's look at the counter -/
def idT (p : Id) : List (Int ⊕ List Nat) := [.inl p.1, .inl p.2]
theorem idT_v (p : Id) : Val.tup ((idT p).map itV) = pv p := rfl
theorem ids_keys : ∀ l : List Id, keysOf (l.map pv) = some (l.map idT)
  | [] => rfl
  | p :: l => by
    rw [List.map_cons, ← idT_v]
    have h : keyTag ((idT p).map itV) = true := rfl
    have e : itemsOf ((idT p).map itV) = some (idT p) := rfl
    unfold keysOf
    rw [if_pos h, e, Option.bind_some, ids_keys l]; rfl
theorem ids_alike (l : List Id) : alikeK (l.map idT) = true := by
  unfold alikeK
  refine List.all_eq_true.mpr fun a ha => List.all_eq_true.mpr fun b hb => ?_
  obtain ⟨k1, h1, rfl⟩ := List.mem_map.mp ha
  obtain ⟨k2, h2, rfl⟩ := List.mem_map.mp hb
  unfold idT encK
  simp [PySem.W.alike, PySem.W.alikeAll, encI]
def idsV (l : List Id) : List Val := (sortKs (l.map idT)).map fun t => .tup (t.map itV)
theorem idsV_mem {l : List Id} {v : Val} (h : v ∈ idsV l) : ∃ p, v = pv p := by
  unfold idsV at h
  obtain ⟨t, ht, e⟩ := List.mem_map.mp h
  obtain ⟨p, hp, e2⟩ := List.mem_map.mp ((sortKs_perm _).mem_iff.mp ht)
  exact ⟨p, by rw [← e, ← e2, idT_v]⟩
theorem idsV_len (l : List Id) : (idsV l).length = l.length := by unfold idsV; rw [List.length_map, (sortKs_perm _).length_eq, List.length_map]
theorem idsV_okk {l : List Id} (hl : l.length < 10000) : okk (.tup (idsV l)) = true := by
  unfold okk
  rw [okkL_all fun x hx => by obtain ⟨p, e⟩ := idsV_mem hx; rw [e]; exact id_okk p, Bool.and_true]
  exact decide_eq_true (by rw [idsV_len]; omega)
theorem idsV_dp (l : List Id) : (Val.tup (idsV l)).depth ≤ 2 := by
  rw [dp_tup]
  have := dpL_all (n := 1) (xs := idsV l) fun x hx => by obtain ⟨p, e⟩ := idsV_mem hx; rw [e, id_dp]; exact Nat.le_refl _
  omega
theorem idsV_under (l : List Id) (n : Nat) : (Val.tup (idsV l)).under n = true := by
  rw [under_tup]; exact underL_all fun x hx => by obtain ⟨p, e⟩ := idsV_mem hx; rw [e]; simp
theorem safe_step (d : Nat) {m : Mem} {c a b g e sg vd mn ak : Nat} {s : Ct} (h : CtA m c a b g e s) (vi : VI s.vals) (hvd : m[vd]? = some (.dict true (mp kyV id s.vals))) {S : List Sd} (hs : m.list sg = some (S.map sV)) (he : ∀ x ∈ S, EO x) (hl : ∀ x ∈ S, x.2.1.length < 10000) (K : Kv s.vals S) {k : Ky} (ks : KS k) (hh : k.1 = s.house) (x5 x6 : Option Val) :
    ∃ G, execB P (callN P (d + 8)) b__law_safe_1 [some (.ref c), some (.ref mn), some (.ref vd), some (.ref ak), some (.ref sg), x5, x6, some (kyV k)] m = .nx [some (.ref c), some (.ref mn), some (.ref vd), some (.ref ak), some (.ref sg), x5, x6, some (kyV k)] (m ++ G) := by
  have mt1 : P.meth "Counter" "value" = some ("Counter.value" : PySem.Str) := by kernel_rfl
  have nf1 : (fs s.house a b g e).lookup ("value" : PySem.Str) = none := by rfl
  have ho := h.o
  have am := ks.amt
  have r1 := run_value d h vi.ok ks.ko hh
  rw [vi.at am] at r1
  have dg := dgetD_vals hvd vi am
  have isd := isDct_vals hvd
  have s1 := run_same (d + 8) (.int (vI s.vals k)) m rfl (by simp)
  obtain ⟨L, eL⟩ : ∃ L : List Val, L = [.str [102, 114, 101, 101], .str [112, 117, 114, 115, 101]] := ⟨_, rfl⟩
  have q3 := mem_lstr k.2.1 [sFree, sPurse] (m := m ++ [.list L]) (r := m.length) (by rw [eL]; exact mem_new _ _)
  have k1 := fun M => ky_1 k M
  have hvd' : (m ++ [Ob.list L])[vd]? = some (.dict true (mp kyV id s.vals)) := get_app hvd
  have dg' := dgetD_vals hvd' vi am
  have isd' := isDct_vals hvd'
  by_cases f : k.2.1 ∈ [sFree, sPurse]
  · rw [decide_eq_true f] at q3
    have hf : fr k := by simpa [fr] using f
    have pr := run_promised (d + 7) (m := m ++ [Ob.list L]) (list_app hs) he hl k
    have le := K.prom he hf
    have hn : ¬ vI s.vals k < promF S k := by omega
    generalize promF S k = pm at *
    generalize vI s.vals k = v at *
    refine ⟨[.list L], ?_⟩
    rw [eL] at q3 dg' isd' pr ⊢
    generalize kyV k = KV at *
    simp [b__law_safe_1, ho, mt1, nf1, r1, isd, dg, s1, k1, show (2 : Nat) ≤ SZ by decide, q3, isd', dg', pr, hn, le]
  · rw [decide_eq_false f] at q3
    generalize vI s.vals k = v at *
    refine ⟨[.list L], ?_⟩
    rw [eL] at q3 ⊢
    generalize kyV k = KV at *
    simp [b__law_safe_1, ho, mt1, nf1, r1, isd, dg, s1, k1, show (2 : Nat) ≤ SZ by decide, q3]
theorem run_safe (d : Nat) {m : Mem} {c a b g e sg vd mn ak : Nat} {s : Ct} (h : CtA m c a b g e s) (vi : VI s.vals) (hvd : m[vd]? = some (.dict true (mp kyV id s.vals))) {menu : List Ky} (hm : m.list mn = some (menu.map kyV)) (km : ∀ k ∈ menu, KS k ∧ k.1 = s.house) (hak : m[ak]? = some (.dict true (mp pv grs s.asks))) {S : List Sd} (hs : m.list sg = some (S.map sV)) (hg : s.grants.map (·.1) = S.map (·.1)) (he : ∀ x ∈ S, EO x) (hl : ∀ x ∈ S, x.2.1.length < 10000) (K : Kv s.vals S) (st : S = [] → s.asks = []) (hz : s.asks.length + S.length < 1000) :
    callN P (d + 9) "_law_safe" [.ref c, .ref mn, .ref vd, .ref ak, .ref sg] m = .ok (.bool true) m := by
  rw [callN_fn e__law_safe rfl]
  have mt2 : P.meth "Counter" "waiting" = some ("Counter.waiting" : PySem.Str) := by kernel_rfl
  have nf2 : (fs s.house a b g e).lookup ("waiting" : PySem.Str) = none := by rfl
  have mt3 : P.meth "Counter" "granted" = some ("Counter.granted" : PySem.Str) := by kernel_rfl
  have nf3 : (fs s.house a b g e).lookup ("granted" : PySem.Str) = none := by rfl
  have ho := h.o
  have r2 := run_waiting (d + 7) h (by omega)
  have r3 := run_granted (d + 7) h
  rw [hg] at r3
  obtain ⟨ids, eids⟩ : ∃ ids, ids = s.asks.map (·.1) := ⟨_, rfl⟩
  have ei : (s.asks.map fun x => pv x.1) = ids.map pv := by rw [eids, List.map_map]; rfl
  rw [ei] at r2
  have lids : ids.length < 1000 := by rw [eids, List.length_map]; omega
  have hpl : (sortPs (S.map (·.1))).length = S.length := by have := (sortPs_perm (S.map (·.1))).length_eq; simpa using this
  have s3 := run_same (d + 8) (.tup ((sortPs (S.map (·.1))).map pv)) m (tup_okk _ _ (by omega) fun x => id_okk _) (by have := tup_dp pv (sortPs (S.map (·.1))) 1 (fun x => by rw [id_dp]; exact Nat.le_refl _); omega)
  have s4 := run_same (d + 8) (.tup (idsV ids)) m (idsV_okk (by omega)) (by have := idsV_dp ids; omega)
  obtain ⟨SV, eSV⟩ : ∃ SV, SV = S.map sV := ⟨_, rfl⟩
  have C2 : ∀ x5 x6 x7, compLoop (some (sg, SV)) (compEl (.name 5) [some (.ref c), some (.ref mn), some (.ref vd), some (.ref ak), some (.ref sg), x5, x6, x7] (evalE P (callN P (d + 8)) (.idx (.var 5) (.lit (.int 0))))) SV m = .ok ((S.map (·.1)).map pv) m := fun x5 x6 x7 => by
    rw [eSV, comp_t sV (fun x => some (pv x.1)) (by unfold still; exact hs) fun x _ => by simp [compEl, Tg.slots, wipeL, sV_0], fm_some, List.map_map]; rfl
  have hs' : m.list sg = some SV := by rw [eSV]; exact hs
  obtain ⟨GV, eGV⟩ : ∃ GV, GV = (sortPs (S.map (·.1))).map pv := ⟨_, rfl⟩
  have hGV : ∀ n, (Val.tup GV).under n = true := fun n => by rw [eGV, under_tup]; exact maps_under _ (fun x n => by simp) _ _
  obtain ⟨IV, eIV⟩ : ∃ IV, IV = (S.map (·.1)).map pv := ⟨_, rfl⟩
  have lIV : IV.length < 1000 := by rw [eIV, List.length_map, List.length_map]; omega
  have so : sortPR (.ref m.length) (m ++ [.list IV]) = .ok (.ref (m ++ [Ob.list IV]).length) (m ++ [.list IV] ++ [.list GV]) := by
    rw [eIV, eGV]
    exact sort_pairs (mem_new _ _) (pairs_pv _)
  have st1 : sortPR (.tup (ids.map pv)) m = .ok (.ref m.length) (m ++ [.list (idsV ids)]) := sort_tup (ids_keys ids) ⟨ids_alike ids, by rw [List.length_map]; unfold SZ; omega⟩
  have st2 : sortPR (.ref ak) m = .ok (.ref m.length) (m ++ [.list (idsV ids)]) := sort_dict hak (ts := ids.map idT) (by rw [← ids_keys, eids]; unfold mp; rw [List.map_map, List.map_map]; rfl) ⟨ids_alike ids, by rw [List.length_map]; unfold SZ; omega⟩
  rw [← eGV] at r3 s3
  rw [← eIV] at C2
  have ce2 : compEnd (.ok IV m) = .ok (.ref m.length) (m ++ [.list IV]) := compEnd_ok (by unfold SZ; omega)
  obtain ⟨M1, eM1⟩ : ∃ M1 : Mem, M1 = m ++ [.list IV] := ⟨_, rfl⟩
  rw [← eM1] at ce2 so
  have bt2 := blt_tuple (seq_list (mem_new M1 GV))
  have gg2 : gc m (.ok (.tup GV) (M1 ++ [.list GV])) = .ok (.tup GV) m := by rw [eM1, List.append_assoc]; exact gc_app (hGV _)
  have bt3 := blt_tuple (seq_list (mem_new m (idsV ids)))
  have gg3 : gc m (.ok (.tup (idsV ids)) (m ++ [.list (idsV ids)])) = .ok (.tup (idsV ids)) m := gc_app (idsV_under _ _)
  have ty : tyOf m (.tup (ids.map pv)) = some .tuple := rfl
  obtain ⟨n1, en1⟩ : ∃ n1 : Int, n1 = s.asks.length := ⟨_, rfl⟩
  obtain ⟨n2, en2⟩ : ∃ n2 : Int, n2 = S.length := ⟨_, rfl⟩
  have l1 : bltop .len [.ref ak] m = .ok (.int n1) m := len_dict hak (by unfold mp; rw [List.length_map, en1])
  have l2 : bltop .len [.ref sg] m = .ok (.int n2) m := len_list hs (by rw [List.length_map, en2])
  have gI : ∀ (m : Mem) (v : Int), gc m (.ok (.int v) m) = .ok (.int v) m := fun m v => gc_same (by simp)
  have hc4 : evalE P (callN P (d + 8)) (.band (.cmp .gt (.blt .len [(.var 3)]) (.lit (.int 0))) (.cmp .eq (.blt .len [(.var 4)]) (.lit (.int 0)))) [some (.ref c), some (.ref mn), some (.ref vd), some (.ref ak), some (.ref sg), none, some (.tup (ids.map pv)), none] m = .ok (.bool false) m := by
    by_cases q : 0 < n1
    · have : ¬ n2 = 0 := fun z => by
        have : S = [] := List.eq_nil_of_length_eq_zero (by omega)
        have := st this
        rw [this] at en1
        simp at en1; omega
      have z' : (n2 == 0) = false := by simpa using this
      simp [l1, l2, gI, q, z']
    · simp [l1, l2, gI, q]
  obtain ⟨l', M, el, x7, G, el1, em1⟩ := for_all (chk := some (mn, menu.map kyV)) (t := .name 7) (b := execB P (callN P (d + 8)) b__law_safe_1) (xs := menu.map kyV)
    (fun i l M => ∃ x7 G, l = [some (.ref c), some (.ref mn), some (.ref vd), some (.ref ak), some (.ref sg), none, some (.tup (ids.map pv)), x7] ∧ M = m ++ G)
    (fun i l M hi => by obtain ⟨_, _, _, e⟩ := hi; subst e; unfold still; exact list_app hm) (fun i x l M hx hi => by
      obtain ⟨x7, G, e1, e2⟩ := hi
      subst e1 e2
      rw [List.getElem?_map] at hx
      obtain ⟨k, hk, eq⟩ := Option.map_eq_some_iff.mp hx
      subst eq
      have hkm := km k (List.mem_of_getElem? hk)
      obtain ⟨G', e3⟩ := safe_step d (mn := mn) (ak := ak) (h.app G) vi (get_app hvd) (list_app hs) he hl K hkm.1 hkm.2 none (some (.tup (ids.map pv)))
      refine ⟨_, asg_name _ _ _ _, ?_⟩
      refine Flow.by (by exact e3) ?_
      exact Flow.nx_of ⟨_, G ++ G', rfl, by rw [List.append_assoc]⟩) (l := [some (.ref c), some (.ref mn), some (.ref vd), some (.ref ak), some (.ref sg), none, some (.tup (ids.map pv)), none]) (m := m) ⟨none, [], rfl, by simp⟩
  subst el1 em1
  have hb : f__law_safe.body = f__law_safe.body.take 3 ++ ([f__law_safe.body.getD 3 .dead] ++ f__law_safe.body.drop 4) := by rfl
  have T1 : execB P (callN P (d + 8)) (f__law_safe.body.take 3) (start f__law_safe.ns [.ref c, .ref mn, .ref vd, .ref ak, .ref sg]) m = .nx [some (.ref c), some (.ref mn), some (.ref vd), some (.ref ak), some (.ref sg), none, some (.tup (ids.map pv)), none] m := by
    generalize idsV ids = DV at *
    generalize ids.map pv = WV at *
    simp [f__law_safe, start, ho, mt3, nf3, r3, hs', ↓C2, ce2, so, bt2, gg2, s3, mt2, nf2, r2, ty, isiK, st1, st2, bt3, gg3, s4]
  have T2 : execB P (callN P (d + 8)) [f__law_safe.body.getD 3 .dead] [some (.ref c), some (.ref mn), some (.ref vd), some (.ref ak), some (.ref sg), none, some (.tup (ids.map pv)), none] m = .nx [some (.ref c), some (.ref mn), some (.ref vd), some (.ref ak), some (.ref sg), none, some (.tup (ids.map pv)), none] m := by
    rw [ev_execB1]
    show (execS P (callN P (d + 8)) (.ifs _ _ _) _ m).seq _ = _
    rw [ifs_ff hc4]; rfl
  have ex : execB P (callN P (d + 8)) f__law_safe.body (start f__law_safe.ns [.ref c, .ref mn, .ref vd, .ref ak, .ref sg]) m = .ret (.bool true) (m ++ G) := by
    rw [hb, execB_app, T1, fs_nx, execB_app, T2, fs_nx]
    generalize menu.map kyV = MV at *
    simp [f__law_safe, hm, el]
  rw [ex]
  exact gc_app (by simp)

end L34

namespace L34
open Py
/-! ### the law's state -/
structure Lh (m : Mem) (vd mn ak sg : Nat) (vals : List (Ky × Val)) (W : List (Id × List Rq)) (S : List Sd) (menu : List Ky) (xs : List Int) : Prop where
  p0 : m.list 0 = some (xs.map .int)
  hp : Pl xs
  hv : m[vd]? = some (.dict true (mp kyV id vals))
  hm : m.list mn = some (menu.map kyV)
  ha : m[ak]? = some (.dict true (mp pv grs W))
  ls : m.list sg = some (S.map sV)
def Dl (c a b g e vd mn ak sg : Nat) : List Nat := b :: [0, c, a, g, e, vd, mn, ak, sg]
structure Cf (house : Int) (vals : List (Ky × Val)) (W : List (Id × List Rq)) (S : List Sd) (menu : List Ky) : Prop where
  vi : VI vals
  km : ∀ k ∈ menu, KS k ∧ k.1 = house
  mn : menu ≠ [] ∧ menu.length < 20
  md : menu.Nodup
  aw : ∀ a ∈ W, WA a ∧ a.2.length < 20 ∧ ∀ r ∈ a.2, r.1 ∈ menu
  zw : ∀ x ∈ S, x.2.1.length < 20 ∧ ∀ r ∈ x.2.1, r.1 ∈ menu
  si : SI2 S
  kv : Kv vals S
  eo : ∀ x ∈ S, EO x
theorem Cf.am {house : Int} {vals : List (Ky × Val)} {W : List (Id × List Rq)} {S : List Sd} {menu : List Ky} (h : Cf house vals W S menu) {k : Ky} (hk : k ∈ menu) : amt k := (h.km k hk).1.amt
theorem list_same {m m' : Mem} {k : Nat} (h : m'[k]? = m[k]?) : m'.list k = m.list k := by unfold Mem.list; rw [h]
theorem CtA.same {m m' : Mem} {c a b g e : Nat} {s : Ct} (h : CtA m c a b g e s) (q : ∀ k, k < m.length → (k = c ∨ k = a ∨ k = b ∨ k = g ∨ k = e) → m'[k]? = m[k]?) : CtA m' c a b g e s := by
  have lt := fun {j : Nat} {o : Ob} (q : m[j]? = some o) => (List.getElem?_eq_some_iff.mp q).1
  exact ⟨by rw [q c (lt h.o) (.inl rfl)]; exact h.o, by rw [q a (lt h.av) (.inr (.inl rfl))]; exact h.av, by rw [list_same (q b (list_lt h.bv) (.inr (.inr (.inl rfl))))]; exact h.bv, by rw [q g (lt h.gv) (.inr (.inr (.inr (.inl rfl))))]; exact h.gv, by rw [list_same (q e (list_lt h.ev) (.inr (.inr (.inr (.inr rfl)))))]; exact h.ev, h.ag, h.be⟩
section
variable {m : Mem} {c a b g e vd mn ak sg : Nat} {vals : List (Ky × Val)} {W : List (Id × List Rq)} {S : List Sd} {menu : List Ky} {xs : List Int} {s : Ct}
theorem Lh.lts (h : Lh m vd mn ak sg vals W S menu xs) : 0 < m.length ∧ vd < m.length ∧ mn < m.length ∧ ak < m.length ∧ sg < m.length :=
  ⟨list_lt h.p0, (List.getElem?_eq_some_iff.mp h.hv).1, list_lt h.hm, (List.getElem?_eq_some_iff.mp h.ha).1, list_lt h.ls⟩
theorem CtA.lts (h : CtA m c a b g e s) : c < m.length ∧ a < m.length ∧ b < m.length ∧ g < m.length ∧ e < m.length := by
  have lt := fun {j : Nat} {o : Ob} (q : m[j]? = some o) => (List.getElem?_eq_some_iff.mp q).1
  exact ⟨lt h.o, lt h.av, list_lt h.bv, lt h.gv, list_lt h.ev⟩
/-- where the counter has worked -/
theorem Lh.fr {m' : Mem} {ks : List Nat} (h : Lh m vd mn ak sg vals W S menu xs) (F : Fr m m' ks) (n : 0 ∉ ks ∧ vd ∉ ks ∧ mn ∉ ks ∧ ak ∉ ks ∧ sg ∉ ks) : Lh m' vd mn ak sg vals W S menu xs :=
  ⟨F.list h.p0 n.1, h.hp, by rw [F.same vd h.lts.2.1 n.2.1]; exact h.hv, F.list h.hm n.2.2.1, by rw [F.same ak h.lts.2.2.2.1 n.2.2.2.1]; exact h.ha, F.list h.ls n.2.2.2.2⟩
/-- the pool draws -/
theorem Lh.pool (h : Lh m vd mn ak sg vals W S menu xs) {ys : List Int} (hy : Pl ys) (n : 0 ≠ vd ∧ 0 ≠ mn ∧ 0 ≠ ak ∧ 0 ≠ sg) : Lh (pw m 0 ys) vd mn ak sg vals W S menu ys := by
  unfold pw
  exact ⟨list_set_self h.lts.1, hy, by rw [List.getElem?_set_ne n.1]; exact h.hv, by rw [list_set n.2.1]; exact h.hm, by rw [List.getElem?_set_ne n.2.2.1]; exact h.ha, by rw [list_set n.2.2.2]; exact h.ls⟩
theorem CtA.set {j : Nat} (h : CtA m c a b g e s) (o : Ob) (n1 : c ≠ j) (n2 : a ≠ j) (n3 : b ≠ j) (n4 : g ≠ j) (n5 : e ≠ j) : CtA (m.set j o) c a b g e s :=
  ⟨by rw [List.getElem?_set_ne n1.symm]; exact h.o, by rw [List.getElem?_set_ne n2.symm]; exact h.av, by rw [list_set n3.symm]; exact h.bv, by rw [List.getElem?_set_ne n4.symm]; exact h.gv, by rw [list_set n5.symm]; exact h.ev, h.ag, h.be⟩
end
theorem nd_ne {l : List Nat} (h : l.Nodup) (i j : Nat) {x y : Nat} (hx : l[i]? = some x) (hy : l[j]? = some y) (hij : i ≠ j) : x ≠ y := fun e => by
  subst e
  exact hij ((List.getElem?_inj (List.getElem?_eq_some_iff.mp hx).1 h).mp (hx.trans hy.symm))
def Lc (ns : List Int) (x2 x4 : Option Val) (c vd mn : Nat) (step : Int) (ak sg : Nat) (x10 x11 x12 x13 x14 : Option Val) : Loc :=
  [some (.fro ns), some (.ref 0), x2, some (.ref mn), x4, some (.ref vd), some (.ref c), some (.int step), some (.ref ak), some (.ref sg), x10, x11, x12, x13, x14]
theorem told_len {vals : List (Ky × Val)} (S : List Sd) (E : List (Bool × Id)) (W : List (Id × List Rq)) : (pass vals S E W).T.length ≤ W.length ∧ (pass vals S E W).L.length ≤ W.length := by
  obtain ⟨a, b, _⟩ := pass_sz vals W ⟨S, E, [], []⟩
  simp only [List.length_nil] at a b
  exact ⟨by unfold L34.pass; omega, by unfold L34.pass; omega⟩
/-- behind the counter's answer -/
theorem tail (ns : List Int) (x2 x4 : Option Val) (step : Int) {m : Mem} {c a b g e vd mn ak sg : Nat} {house : Int} {vals : List (Ky × Val)} {W : List (Id × List Rq)} {S : List Sd} {E : List (Bool × Id)} {menu : List Ky} {xs : List Int}
    (h : Lh m vd mn ak sg vals W S menu xs) (C : CtA m c a b g e ⟨house, vals, (pass vals S E W).L, (pass vals S E W).S.map gOf, (pass vals S E W).E⟩) (nd : (Dl c a b g e vd mn ak sg).Nodup) (cf : Cf house vals W S menu) (ndW : (W.map (·.1)).Nodup) (hz : S.length + W.length < 80) (x10 x11 x13 x14 : Option Val) :
    ∃ m', execB P (callN P 12) (b_law_1.drop 1) (Lc ns x2 x4 c vd mn step ak sg x10 x11 (some (.tup ((pass vals S E W).T.map tV))) x13 x14) m =
        .nx (Lc ns x2 x4 c vd mn step ak sg x10 x11 (some (.tup ((pass vals S E W).T.map tV))) x13 x14) m' ∧
      Lh m' vd mn ak sg vals (pass vals S E W).L (pass vals S E W).S menu xs ∧ CtA m' c a b g e ⟨house, vals, (pass vals S E W).L, (pass vals S E W).S.map gOf, (pass vals S E W).E⟩ ∧ Cf house vals (pass vals S E W).L (pass vals S E W).S menu := by
  obtain ⟨T, eT, G, K, he⟩ := pass_ok (vals := vals) W ⟨S, E, [], []⟩ (by simpa using ndW) cf.kv cf.eo (fun a ha => (cf.aw a ha).1)
  have stn := pass_stands (vals := vals) W ⟨S, E, [], []⟩ (fun _ => rfl)
  have eT : (pass vals S E W).T = T := by rw [← List.nil_append T]; exact eT
  have G : GOk W S T (pass vals S E W).L (pass vals S E W).S := G
  have K : Kv vals (pass vals S E W).S := K
  have he : ∀ x ∈ (pass vals S E W).S, EO x := he
  have stn : (pass vals S E W).S = [] → (pass vals S E W).L = [] := stn
  have hSx : ∀ x ∈ (pass vals S E W).S, x ∈ S ∨ ∃ a ∈ W, x.2.1 = a.2 := (pass_perm vals W ⟨S, E, [], []⟩).2.2.2
  have hLW := pass_W (vals := vals) (S := S) (E := E) (W := W)
  have tl := told_len (vals := vals) S E W
  have hSI : SI2 (pass vals S E W).S := (look_pass cf.vi W ⟨S, E, [], []⟩ [] [] cf.si (fun a ha r hr => ⟨((cf.aw a ha).1.ro r hr).wm, cf.am ((cf.aw a ha).2.2 r hr)⟩) (fun k => rfl) rfl).1
  rw [eT] at *
  generalize pass vals S E W = t at *
  obtain ⟨gl1, gl2, gl3⟩ := G.w
  have zw' : ∀ x ∈ t.S, x.2.1.length < 20 ∧ ∀ r ∈ x.2.1, r.1 ∈ menu := fun x hx => by
    rcases hSx x hx with q | ⟨a, ha, q⟩
    · exact cf.zw x q
    · rw [q]; exact ⟨(cf.aw a ha).2.1, fun r hr => (cf.aw a ha).2.2 r hr⟩
  have gr := run_grantedL 10 h.ha h.ls G (fun a ha => by have := (cf.aw a ha).2.1; omega) (by omega)
  obtain ⟨M, eM⟩ : ∃ M : Mem, M = gm m ak sg t.L t.S := ⟨_, rfl⟩
  rw [← eM] at gr
  have n8 := fun j (x : Nat) (hx : (Dl c a b g e vd mn ak sg)[j]? = some x) (hj : j ≠ 8) => (nd_ne nd 8 j (x := ak) rfl hx (Ne.symm hj))
  have n9 := fun j (x : Nat) (hx : (Dl c a b g e vd mn ak sg)[j]? = some x) (hj : j ≠ 9) => (nd_ne nd 9 j (x := sg) rfl hx (Ne.symm hj))
  have C1 : CtA M c a b g e ⟨house, vals, t.L, t.S.map gOf, t.E⟩ := by
    rw [eM]; unfold gm
    exact (C.set _ (n8 2 c rfl (by decide)).symm (n8 3 a rfl (by decide)).symm (n8 0 b rfl (by decide)).symm (n8 4 g rfl (by decide)).symm (n8 5 e rfl (by decide)).symm).set _ (n9 2 c rfl (by decide)).symm (n9 3 a rfl (by decide)).symm (n9 0 b rfl (by decide)).symm (n9 4 g rfl (by decide)).symm (n9 5 e rfl (by decide)).symm
  have H1 : Lh M vd mn ak sg vals t.L t.S menu xs := by
    rw [eM]
    refine ⟨?_, h.hp, ?_, ?_, gm_ak h.lts.2.2.2.1 (n8 9 sg rfl (by decide)), gm_sg h.lts.2.2.2.2⟩
    · unfold gm; rw [list_set (n9 1 0 rfl (by decide)), list_set (n8 1 0 rfl (by decide))]; exact h.p0
    · unfold gm; rw [List.getElem?_set_ne (n9 6 vd rfl (by decide)), List.getElem?_set_ne (n8 6 vd rfl (by decide))]; exact h.hv
    · unfold gm; rw [list_set (n9 7 mn rfl (by decide)), list_set (n8 7 mn rfl (by decide))]; exact h.hm
  have hg : (t.S.map gOf).map (·.1) = t.S.map (·.1) := by rw [List.map_map]; rfl
  have sf := run_safe 3 C1 cf.vi H1.hv H1.hm cf.km H1.ha H1.ls hg he (fun x hx => by have := (zw' x hx).1; omega) K stn (by show t.L.length + t.S.length < 1000; omega)
  refine ⟨M, ?_, H1, C1, ⟨cf.vi, cf.km, cf.mn, cf.md, fun a ha => cf.aw a (hLW a ha), zw', hSI, K, he⟩⟩
  generalize T.map tV = TV at *
  unfold Lc
  simp [b_law_1, gr, sf]

end L34

namespace L34
open Py
structure Lw (m : Mem) (c a b g e vd mn ak sg : Nat) (house : Int) (vals : List (Ky × Val)) (W : List (Id × List Rq)) (S : List Sd) (E : List (Bool × Id)) (menu : List Ky) (xs : List Int) (step : Int) (i : Nat) : Prop where
  H : Lh m vd mn ak sg vals W S menu xs
  C : CtA m c a b g e ⟨house, vals, W, S.map gOf, E⟩
  nd : (Dl c a b g e vd mn ak sg).Nodup
  cf : Cf house vals W S menu
  I : Idz step i W (S.map (·.1)) E vals.length
theorem gsum_le : ∀ {S : List Sd}, (∀ z ∈ S, z.2.1.length < 20) → gsum (S.map gOf) ≤ 20 * S.length
  | [], _ => by simp [gsum]
  | z :: S, h => by
    have ih := gsum_le fun y hy => h y (List.mem_cons_of_mem _ hy)
    have h1 := h z List.mem_cons_self
    have : (gOf z).2.length ≤ z.2.1.length := by unfold gOf grZ; simp; omega
    unfold gsum at ih ⊢
    simp only [List.map_cons, List.sum_cons, List.length_cons]
    omega
theorem rsum_le20 : ∀ {W : List (Id × List Rq)}, (∀ a ∈ W, a.2.length < 20) → rsum W ≤ 20 * W.length
  | [], _ => by simp [rsum]
  | a :: W, h => by
    have ih := rsum_le20 fun y hy => h y (List.mem_cons_of_mem _ hy)
    have h1 := h a List.mem_cons_self
    unfold rsum at ih ⊢
    simp only [List.map_cons, List.sum_cons, List.length_cons]
    omega
theorem ids_g (S : List Sd) : (S.map gOf).map (·.1) = S.map (·.1) := by rw [List.map_map]; rfl
theorem aok_of {house : Int} {vals : List (Ky × Val)} {W : List (Id × List Rq)} {S : List Sd} {E : List (Bool × Id)} {menu : List Ky} (cf : Cf house vals W S menu) (nd : (W.map (·.1) ++ S.map (·.1)).Nodup) (z : W.length + S.length + E.length < 1000) : AOk ⟨house, vals, W, S.map gOf, E⟩ where
  vals := cf.vi.ok
  rq := fun ak hak => by
    have h := cf.aw ak hak
    exact ⟨by omega, fun r hr => ⟨(cf.km _ (h.2.2 r hr)).1.ko, fun _ _ _ => ⟨_, cf.vi.at (cf.am (h.2.2 r hr))⟩⟩⟩
  new := fun ak hak p hp e => by
    have h2 := (List.nodup_append.mp nd).2.2
    have hp' : p.1 ∈ S.map (·.1) := by rw [← ids_g]; exact List.mem_map.mpr ⟨p, hp, rfl⟩
    exact h2 ak.1 (List.mem_map.mpr ⟨ak, hak, rfl⟩) p.1 hp' e.symm
  nd := (List.nodup_append.mp nd).1
  sz := by
    have h1 := gsum_le (S := S) fun z hz => (cf.zw z hz).1
    have h2 := rsum_le20 (W := W) fun a ha => (cf.aw a ha).2.1
    show gsum (S.map gOf) + rsum W < 800000
    omega
  sl := by show (S.map gOf).length + E.length + W.length < 800000; simp; omega
theorem after_look {house : Int} {vals : List (Ky × Val)} {W : List (Id × List Rq)} {S : List Sd} {E : List (Bool × Id)} {menu : List Ky} (cf : Cf house vals W S menu) :
    ((lookL vals (S.map gOf) E W).gr.map toldV = (pass vals S E W).T.map tV) ∧ (lookL vals (S.map gOf) E W).w = (pass vals S E W).L ∧ (lookL vals (S.map gOf) E W).G = (pass vals S E W).S.map gOf ∧ (lookL vals (S.map gOf) E W).E = (pass vals S E W).E := by
  obtain ⟨_, b, e⟩ := look_pass cf.vi W ⟨S, E, [], []⟩ [] [] cf.si (fun a ha r hr => ⟨((cf.aw a ha).1.ro r hr).wm, cf.am ((cf.aw a ha).2.2 r hr)⟩) (fun k => rfl) rfl
  have e' : lookL vals (S.map gOf) E W = ⟨(pass vals S E W).S.map gOf, (pass vals S E W).E, (pass vals S E W).T.map (fun x => (x.1, x.2.map fV)), (pass vals S E W).L, b⟩ := e
  rw [e']
  exact ⟨by rw [List.map_map]; rfl, rfl, rfl, rfl⟩
theorem Dl_nb {c a b g e vd mn ak sg b' n : Nat} (h : (Dl c a b g e vd mn ak sg).Nodup) (hb : n ≤ b') (hl : ∀ k ∈ [0, c, a, g, e, vd, mn, ak, sg], k < n) : (Dl c a b' g e vd mn ak sg).Nodup :=
  List.nodup_cons.mpr ⟨fun q => by have := hl _ q; omega, (List.nodup_cons.mp h).2⟩
/-- a new deed asks -/
theorem turn_ask (ns : List Int) (x2 x4 : Option Val) {m : Mem} {c a b g e vd mn ak sg : Nat} {house : Int} {vals : List (Ky × Val)} {W : List (Id × List Rq)} {S : List Sd} {E : List (Bool × Id)} {menu : List Ky} {xs : List Int} {step : Int} {i : Nat} (h : Lw m c a b g e vd mn ak sg house vals W S E menu xs step i) (hi : i < 35) (hst : 0 ≤ step ∧ step < 2520) (x11 x12 x13 x14 : Option Val) :
    ∃ m' b' xs' W' y11, execB P (callN P 12) [(.set 11 (.call "_law_requests" [(.var 1), (.var 3), (.var 5)])), (.setD (.var 8) (.call "_law_id" [(.var 7), (.var 10)]) (.var 11)), (.set 12 (.meth (.var 6) "ask" [(.call "_law_id" [(.var 7), (.var 10)]), (.var 11)]))] (Lc ns x2 x4 c vd mn step ak sg (some (.int i)) x11 x12 x13 x14) m =
        .nx (Lc ns x2 x4 c vd mn step ak sg (some (.int i)) y11 (some (.tup ((pass vals S E W').T.map tV))) x13 x14) m' ∧
      Lh m' vd mn ak sg vals W' S menu xs' ∧ CtA m' c a b' g e ⟨house, vals, (pass vals S E W').L, (pass vals S E W').S.map gOf, (pass vals S E W').E⟩ ∧ (Dl c a b' g e vd mn ak sg).Nodup ∧ Cf house vals W' S menu ∧ Idz step (i + 1) W' (S.map (·.1)) E vals.length := by
  obtain ⟨H, C, nd, cf, I⟩ := h
  have lts := H.lts
  have clt := C.lts
  obtain ⟨reqs, ys, py, r1, r2, r3, r4, er⟩ := run_requests 9 (m := m) (r := 0) lts.1 H.hp H.hm (nd_ne nd 7 1 rfl rfl (by decide)) H.hv (nd_ne nd 6 1 rfl rfl (by decide)) cf.vi (fun k hk => cf.am hk) ⟨cf.mn.1, by have := cf.mn.2; omega⟩
  rw [← pw_self H.p0] at er
  have H1 := H.pool py ⟨nd_ne nd 1 6 rfl rfl (by decide), nd_ne nd 1 7 rfl rfl (by decide), nd_ne nd 1 8 rfl rfl (by decide), nd_ne nd 1 9 rfl rfl (by decide)⟩
  have C1 : CtA (pw m 0 ys) c a b g e ⟨house, vals, W, S.map gOf, E⟩ := C.set _ (nd_ne nd 2 1 rfl rfl (by decide)) (nd_ne nd 3 1 rfl rfl (by decide)) (nd_ne nd 0 1 rfl rfl (by decide)) (nd_ne nd 4 1 rfl rfl (by decide)) (nd_ne nd 5 1 rfl rfl (by decide))
  obtain ⟨M1, eM1⟩ : ∃ M1 : Mem, M1 = pw m 0 ys := ⟨_, rfl⟩
  rw [← eM1] at H1 C1 er
  have rid : ∀ m, callN P 12 "_law_id" [.int step, .int i] m = .ok (pv (idOf step i)) m := fun m => run_id 11 m step i hst (by omega)
  have hz1 := I.z1
  have hz2 := I.z2
  have hz3 := I.z3
  simp only [List.length_map] at hz1
  have hnew : ∀ p ∈ W.map (·.1) ++ S.map (·.1), p ≠ idOf step i := fun p hp e => by
    obtain ⟨j, j0, j1, ej⟩ := I.lt p hp
    rw [ej] at e
    have := idOf_inj step j i (by omega) (by omega) e
    omega
  obtain ⟨W', eW'⟩ : ∃ W', W' = W ++ [(idOf step i, reqs)] := ⟨_, rfl⟩
  have dp := fun l => dput_ok (l := l) (v := grs reqs) H1.ha (id_put (idOf step i)) (by unfold mp; rw [List.length_map]; unfold SZ; omega)
  rw [show dput (mp pv grs W) (pv (idOf step i)) (grs reqs) = mp pv grs W' by rw [dput_mp id_eqv, put2_new _ (fun p hp => hnew p.1 (List.mem_append_left _ (List.mem_map.mpr ⟨p, hp, rfl⟩))), eW']] at dp
  obtain ⟨M2, eM2⟩ : ∃ M2 : Mem, M2 = M1.set ak (.dict true (mp pv grs W')) := ⟨_, rfl⟩
  rw [← eM2] at dp
  have n8 := fun j (x : Nat) (hx : (Dl c a b g e vd mn ak sg)[j]? = some x) (hj : j ≠ 8) => (nd_ne nd 8 j (x := ak) rfl hx (Ne.symm hj))
  have H2 : Lh M2 vd mn ak sg vals W' S menu ys := by
    rw [eM2]
    exact ⟨by rw [list_set (n8 1 0 rfl (by decide))]; exact H1.p0, py, by rw [List.getElem?_set_ne (n8 6 vd rfl (by decide))]; exact H1.hv, by rw [list_set (n8 7 mn rfl (by decide))]; exact H1.hm, List.getElem?_set_self H1.lts.2.2.2.1, by rw [list_set (n8 9 sg rfl (by decide))]; exact H1.ls⟩
  have C2 : CtA M2 c a b g e ⟨house, vals, W, S.map gOf, E⟩ := by
    rw [eM2]
    exact C1.set _ (n8 2 c rfl (by decide)).symm (n8 3 a rfl (by decide)).symm (n8 0 b rfl (by decide)).symm (n8 4 g rfl (by decide)).symm (n8 5 e rfl (by decide)).symm
  have cf' : Cf house vals W' S menu := ⟨cf.vi, cf.km, cf.mn, cf.md, fun a ha => by
    rw [eW'] at ha
    rcases List.mem_append.mp ha with ha | ha
    · exact cf.aw a ha
    · rw [List.mem_singleton.mp ha]; exact ⟨⟨r4 cf.md, fun r hr => (r3 r hr).2⟩, by have := cf.mn.2; show reqs.length < 20; omega, fun r hr => (r3 r hr).1⟩, cf.zw, cf.si, cf.kv, cf.eo⟩
  have I' : Idz step (i + 1) W' (S.map (·.1)) E vals.length := by
    refine ⟨fun p hp => ?_, ?_, fun q hq => ?_, ?_, ?_, ?_⟩
    · rw [eW', List.map_append, List.append_assoc] at hp
      rcases List.mem_append.mp hp with hp | hp
      · obtain ⟨j, j0, j1, ej⟩ := I.lt p (List.mem_append_left _ hp); exact ⟨j, j0, by omega, ej⟩
      · rcases List.mem_append.mp hp with hp | hp
        · rw [List.mem_singleton.mp hp]; exact ⟨i, by omega, by omega, rfl⟩
        · obtain ⟨j, j0, j1, ej⟩ := I.lt p (List.mem_append_right _ hp); exact ⟨j, j0, by omega, ej⟩
    · have pm : (W'.map (·.1) ++ S.map (·.1)).Perm (idOf step i :: (W.map (·.1) ++ S.map (·.1))) := by
        rw [eW', List.map_append, List.append_assoc]
        exact List.perm_middle
      exact pm.nodup_iff.mpr (List.nodup_cons.mpr ⟨fun z => hnew _ z rfl, I.nd⟩)
    · obtain ⟨j, j0, j1, ej⟩ := I.en q hq; exact ⟨j, j0, by omega, ej⟩
    · rw [eW']; simp; omega
    · rw [eW']; simp; omega
    · omega
  have hz1' := I'.z1
  have hz2' := I'.z2
  simp only [List.length_map] at hz1'
  have A := aok_of (E := E) cf' I'.nd (by omega)
  rw [eW'] at A
  obtain ⟨M3, b', e3, C3, F3, hb'⟩ := run_ask 1 C2 (idOf step i) reqs (fun z => by
    obtain ⟨j, j0, j1, ej⟩ := I.en _ z
    have := idOf_inj step i j (by omega) (by omega) ej
    omega) (fun ak hak => hnew ak.1 (List.mem_append_left _ (List.mem_map.mpr ⟨ak, hak, rfl⟩))) A (fun r hr => (cf.km _ (r3 r hr).1).2)
  obtain ⟨a1, a2, a3, a4⟩ := after_look (E := E) cf'
  simp only [← eW'] at e3 C3
  rw [a1] at e3
  rw [a2, a3, a4] at C3
  have lts2 := H2.lts
  have clt2 := C2.lts
  have nks : ∀ k, k ≠ c → k ≠ g → k ≠ e → k ≠ b → k ∉ [c, g, e, b] := fun k q1 q2 q3 q4 => by
    simp only [List.mem_cons, List.not_mem_nil, or_false, not_or]; exact ⟨q1, q2, q3, q4⟩
  have H3 := H2.fr F3 ⟨nks 0 (nd_ne nd 1 2 rfl rfl (by decide)) (nd_ne nd 1 4 rfl rfl (by decide)) (nd_ne nd 1 5 rfl rfl (by decide)) (nd_ne nd 1 0 rfl rfl (by decide)), nks vd (nd_ne nd 6 2 rfl rfl (by decide)) (nd_ne nd 6 4 rfl rfl (by decide)) (nd_ne nd 6 5 rfl rfl (by decide)) (nd_ne nd 6 0 rfl rfl (by decide)), nks mn (nd_ne nd 7 2 rfl rfl (by decide)) (nd_ne nd 7 4 rfl rfl (by decide)) (nd_ne nd 7 5 rfl rfl (by decide)) (nd_ne nd 7 0 rfl rfl (by decide)), nks ak (nd_ne nd 8 2 rfl rfl (by decide)) (nd_ne nd 8 4 rfl rfl (by decide)) (nd_ne nd 8 5 rfl rfl (by decide)) (nd_ne nd 8 0 rfl rfl (by decide)), nks sg (nd_ne nd 9 2 rfl rfl (by decide)) (nd_ne nd 9 4 rfl rfl (by decide)) (nd_ne nd 9 5 rfl rfl (by decide)) (nd_ne nd 9 0 rfl rfl (by decide))⟩
  have nd' : (Dl c a b' g e vd mn ak sg).Nodup := Dl_nb nd hb' (fun k hk => by
    simp only [List.mem_cons, List.not_mem_nil, or_false] at hk
    rcases hk with q | q | q | q | q | q | q | q | q <;> rw [q] <;> omega)
  refine ⟨M3, b', ys, W', some (grs reqs), ?_, H3, C3, nd', cf', I'⟩
  have ho := C2.o
  have mt : P.meth "Counter" "ask" = some ("Counter.ask" : PySem.Str) := by kernel_rfl
  have nf : (fs house a b g e).lookup ("ask" : PySem.Str) = none := by rfl
  generalize (pass vals S E W').T.map tV = TV at e3 ⊢
  generalize grs reqs = GR at *
  unfold Lc
  simp [er, rid, dp, ho, mt, nf, e3]

end L34

namespace L34
open Py
theorem pop_at {m : Mem} {k : Nat} {y : Val} {xs : List Val} {i : Int} (h : m.list k = some xs) (h0 : 0 ≤ i) (h1 : i < 1000000) (hy : xs[i.toNat]? = some y) : bmop .pop (.ref k) [.int i] m = .ok y (m.set k (.list (xs.eraseIdx i.toNat))) := by
  have hl : i.toNat < xs.length := (List.getElem?_eq_some_iff.mp hy).1
  unfold bmop
  simp only [h]
  have e : ((ixOf xs.length i).bind fun j => (xs[j]?).map fun y => (j, y)) = some (i.toNat, y) := by
    rw [ixOf_nat h0 hl]; simp [hy]
  simp only [e]
  rw [if_pos (by omega)]
theorem split_at {α : Type} : ∀ {S : List α} {j : Nat} {x : α}, S[j]? = some x → ∃ A B, S = A ++ x :: B ∧ S.eraseIdx j = A ++ B ∧ A.length = j
  | [], j, x, h => by simp at h
  | y :: S, 0, x, h => by
    simp at h
    subst h
    exact ⟨[], S, rfl, rfl, rfl⟩
  | y :: S, j + 1, x, h => by
    simp at h
    obtain ⟨A, B, e1, e2, e3⟩ := split_at h
    exact ⟨y :: A, B, by rw [e1]; rfl, by simp [e2], by simp [e3]⟩
theorem erase_map {α β : Type} (f : α → β) : ∀ (S : List α) (j : Nat), (S.map f).eraseIdx j = (S.eraseIdx j).map f
  | [], j => rfl
  | y :: S, 0 => rfl
  | y :: S, j + 1 => by simp [erase_map f S j]
theorem noSee_sub {reqs : List Rq} {fd : List Fd} {k : Ky} (h : k ∈ noSee (grZ reqs fd)) : ∃ r ∈ reqs, r.1 = k := by
  unfold noSee grZ at h
  obtain ⟨q, hq, e⟩ := List.mem_filterMap.mp h
  obtain ⟨p, hp, e2⟩ := List.mem_map.mp hq
  subst e2
  split at e
  · cases e
  · cases e; exact ⟨p.1, (List.of_mem_zip hp).1, rfl⟩
/-- a drawn granted deed ends -/
theorem turn_end (ns : List Int) (x2 x4 : Option Val) {m : Mem} {c a b g e vd mn ak sg : Nat} {house : Int} {vals : List (Ky × Val)} {W : List (Id × List Rq)} {S : List Sd} {E : List (Bool × Id)} {menu : List Ky} {xs : List Int} {step : Int} {i : Nat} (h : Lw m c a b g e vd mn ak sg house vals W S E menu xs step i) (hi : i < 35) (hZ : S ≠ []) (x10 x11 x12 x13 x14 : Option Val) :
    ∃ m' b' xs' vals' S' E' y13 y14, execB P (callN P 12) [(.set 13 (.bm (.var 9) .pop [(.call "_law_draw" [(.var 1), (.blt .len [(.var 9)])])])), (.set 14 (.call "_law_ended" [(.var 1), (.var 13), (.var 5)])), (.set 12 (.meth (.var 6) "end" [(.idx (.var 13) (.lit (.int 0))), (.var 14)]))] (Lc ns x2 x4 c vd mn step ak sg x10 x11 x12 x13 x14) m =
        .nx (Lc ns x2 x4 c vd mn step ak sg x10 x11 (some (.tup ((pass vals' S' E' W).T.map tV))) y13 y14) m' ∧
      Lh m' vd mn ak sg vals' W S' menu xs' ∧ CtA m' c a b' g e ⟨house, vals', (pass vals' S' E' W).L, (pass vals' S' E' W).S.map gOf, (pass vals' S' E' W).E⟩ ∧ (Dl c a b' g e vd mn ak sg).Nodup ∧ Cf house vals' W S' menu ∧ Idz step (i + 1) W (S'.map (·.1)) E' vals'.length := by
  obtain ⟨H, C, nd, cf, I⟩ := h
  have lts := H.lts
  have hz1 := I.z1
  have hz2 := I.z2
  have hz3 := I.z3
  simp only [List.length_map] at hz1
  obtain ⟨n, en⟩ : ∃ n : Int, n = S.length := ⟨_, rfl⟩
  have hn : 0 < n := by
    cases S with
    | nil => exact absurd rfl hZ
    | cons y l => rw [en]; simp
  have hlen : bltop .len [.ref sg] m = .ok (.int n) m := len_list H.ls (by rw [List.length_map, en])
  have gI : gc m (.ok (.int n) m) = .ok (.int n) m := gc_same (by simp)
  have rr := recv_list (f := .pop) H.ls
  obtain ⟨j, ys1, j0, j1, p1, e1⟩ := draw 11 m lts.1 H.hp n hn
  rw [← pw_self H.p0] at e1
  have n0 := fun j (x : Nat) (hx : (Dl c a b g e vd mn ak sg)[j]? = some x) (hj : j ≠ 1) => (nd_ne nd 1 j (x := 0) rfl hx (Ne.symm hj))
  have H1 := H.pool p1 ⟨n0 6 vd rfl (by decide), n0 7 mn rfl (by decide), n0 8 ak rfl (by decide), n0 9 sg rfl (by decide)⟩
  have C1 : CtA (pw m 0 ys1) c a b g e ⟨house, vals, W, S.map gOf, E⟩ := C.set _ (n0 2 c rfl (by decide)).symm (n0 3 a rfl (by decide)).symm (n0 0 b rfl (by decide)).symm (n0 4 g rfl (by decide)).symm (n0 5 e rfl (by decide)).symm
  obtain ⟨M1, eM1⟩ : ∃ M1 : Mem, M1 = pw m 0 ys1 := ⟨_, rfl⟩
  rw [← eM1] at H1 C1 e1
  obtain ⟨z, hz⟩ : ∃ z, S[j.toNat]? = some z := ⟨S[j.toNat]'(by omega), List.getElem?_eq_getElem (by omega)⟩
  obtain ⟨A, B, eZ, eZ', _⟩ := split_at hz
  have hzm : z ∈ S := List.mem_of_getElem? hz
  have hp := pop_at H1.ls j0 (by omega) (show (S.map sV)[j.toNat]? = some (sV z) by rw [List.getElem?_map, hz]; rfl)
  obtain ⟨S', eZZ⟩ : ∃ S', S' = A ++ B := ⟨_, rfl⟩
  rw [show (S.map sV).eraseIdx j.toNat = S'.map sV by rw [eZZ, ← eZ', erase_map]] at hp
  have hsub : ∀ y ∈ S', y ∈ S := fun y hy => by
    rw [eZZ] at hy; rw [eZ]
    rcases List.mem_append.mp hy with hy | hy
    · exact List.mem_append_left _ hy
    · exact List.mem_append_right _ (List.mem_cons_of_mem _ hy)
  obtain ⟨M2, eM2⟩ : ∃ M2 : Mem, M2 = M1.set sg (.list (S'.map sV)) := ⟨_, rfl⟩
  rw [← eM2] at hp
  have n9 := fun j (x : Nat) (hx : (Dl c a b g e vd mn ak sg)[j]? = some x) (hj : j ≠ 9) => (nd_ne nd 9 j (x := sg) rfl hx (Ne.symm hj))
  have n6 := fun j (x : Nat) (hx : (Dl c a b g e vd mn ak sg)[j]? = some x) (hj : j ≠ 6) => (nd_ne nd 6 j (x := vd) rfl hx (Ne.symm hj))
  have H2 : Lh M2 vd mn ak sg vals W S' menu ys1 := by
    rw [eM2]
    exact ⟨by rw [list_set (n9 1 0 rfl (by decide))]; exact H1.p0, p1, by rw [List.getElem?_set_ne (n9 6 vd rfl (by decide))]; exact H1.hv, by rw [list_set (n9 7 mn rfl (by decide))]; exact H1.hm, by rw [List.getElem?_set_ne (n9 8 ak rfl (by decide))]; exact H1.ha, list_set_self H1.lts.2.2.2.2⟩
  have C2 : CtA M2 c a b g e ⟨house, vals, W, S.map gOf, E⟩ := by
    rw [eM2]
    exact C1.set _ (n9 2 c rfl (by decide)).symm (n9 3 a rfl (by decide)).symm (n9 0 b rfl (by decide)).symm (n9 4 g rfl (by decide)).symm (n9 5 e rfl (by decide)).symm
  have hzw := cf.zw z hzm
  obtain ⟨ws, ys2, p2, wok, wl, wq, e2⟩ := run_ended 10 H2.lts.1 H2.hv (n6 1 0 rfl (by decide)) H2.hp (cf.eo z hzm) (by omega) (fun q hq => ⟨(cf.km _ (hzw.2 q hq)).1.ko, cf.am (hzw.2 q hq)⟩) cf.vi (by omega)
  rw [← pw_self H2.p0] at e2
  obtain ⟨vals', evals⟩ : ∃ vals', vals' = carryF vals ws := ⟨_, rfl⟩
  rw [← evals] at e2 wq
  have hkey : ∀ q ∈ ws, q.1 ∈ menu := fun q hq => by
    obtain ⟨r, hr, er⟩ := noSee_sub (wok q hq).1
    rw [← er]; exact hzw.2 r hr
  have vi' : VI vals' := by rw [evals]; exact cf.vi.carry fun q hq => (wok q hq).2.2
  have hvl := carry_len vals ws
  rw [← evals] at hvl
  obtain ⟨M3, eM3⟩ : ∃ M3 : Mem, M3 = (pw M2 0 ys2).set vd (.dict true (mp kyV id vals')) := ⟨_, rfl⟩
  rw [← eM3] at e2
  have H2' := H2.pool p2 ⟨n0 6 vd rfl (by decide), n0 7 mn rfl (by decide), n0 8 ak rfl (by decide), n0 9 sg rfl (by decide)⟩
  have C2' : CtA (pw M2 0 ys2) c a b g e ⟨house, vals, W, S.map gOf, E⟩ := C2.set _ (n0 2 c rfl (by decide)).symm (n0 3 a rfl (by decide)).symm (n0 0 b rfl (by decide)).symm (n0 4 g rfl (by decide)).symm (n0 5 e rfl (by decide)).symm
  have H3 : Lh M3 vd mn ak sg vals' W S' menu ys2 := by
    rw [eM3]
    exact ⟨by rw [list_set (n6 1 0 rfl (by decide))]; exact H2'.p0, p2, List.getElem?_set_self H2'.lts.2.1, by rw [list_set (n6 7 mn rfl (by decide))]; exact H2'.hm, by rw [List.getElem?_set_ne (n6 8 ak rfl (by decide))]; exact H2'.ha, by rw [list_set (n6 9 sg rfl (by decide))]; exact H2'.ls⟩
  have C3 : CtA M3 c a b g e ⟨house, vals, W, S.map gOf, E⟩ := by
    rw [eM3]
    exact C2'.set _ (n6 2 c rfl (by decide)).symm (n6 3 a rfl (by decide)).symm (n6 0 b rfl (by decide)).symm (n6 4 g rfl (by decide)).symm (n6 5 e rfl (by decide)).symm
  -- the counter's end
  obtain ⟨jj, jj0, jj1, ejj⟩ := I.lt z.1 (List.mem_append_right _ (List.mem_map.mpr ⟨z, hzm, rfl⟩))
  have hidok : IdOk z.1 := by rw [ejj]; exact idOf_ok _ _
  have ndZ := (List.nodup_append.mp I.nd).2.1
  have eids : S.map (·.1) = A.map (·.1) ++ z.1 :: B.map (·.1) := by rw [eZ]; simp
  rw [eids] at ndZ
  have hAx : ∀ p ∈ A.map gOf, p.1 ≠ z.1 := fun p hp ee => by
    have : p.1 ∈ A.map (·.1) := by rw [← ids_g]; exact List.mem_map.mpr ⟨p, hp, rfl⟩
    exact (List.nodup_append.mp ndZ).2.2 p.1 this z.1 List.mem_cons_self ee
  have hBx : ∀ p ∈ B.map gOf, p.1 ≠ z.1 := fun p hp ee => by
    have h1 : p.1 ∈ B.map (·.1) := by rw [← ids_g]; exact List.mem_map.mpr ⟨p, hp, rfl⟩
    rw [ee] at h1
    exact (List.nodup_cons.mp (List.nodup_append.mp ndZ).2.1).1 h1
  have egS : S.map gOf = A.map gOf ++ (z.1, (gOf z).2) :: B.map gOf := by rw [eZ]; simp; rfl
  have hlk : look2 (S.map gOf) z.1 = some (gOf z).2 := by rw [egS]; exact look2_mid hAx
  have hdel : del2 (S.map gOf) z.1 = S'.map gOf := by rw [egS, del2_mid hAx hBx, eZZ]; simp
  have kv' : Kv vals' S' := by
    rw [eZZ]
    have := cf.kv
    rw [eZ] at this
    exact this.end wq
  have cf' : Cf house vals' W S' menu := ⟨vi', cf.km, cf.mn, cf.md, cf.aw, fun y hy => cf.zw y (hsub y hy), fun x hx => cf.si x (hsub x hx), kv', fun x hx => cf.eo x (hsub x hx)⟩
  have hZl : S'.length + 1 = S.length := by rw [eZ, eZZ]; simp; omega
  obtain ⟨E', eE'⟩ : ∃ E', E' = E ++ [(false, z.1)] := ⟨_, rfl⟩
  have I' : Idz step (i + 1) W (S'.map (·.1)) E' vals'.length := by
    refine ⟨fun p hp => ?_, ?_, fun q hq => ?_, ?_, ?_, ?_⟩
    · rcases List.mem_append.mp hp with hp | hp
      · obtain ⟨j, j0, j1, ej⟩ := I.lt p (List.mem_append_left _ hp); exact ⟨j, j0, by omega, ej⟩
      · obtain ⟨x, hx, ex⟩ := List.mem_map.mp hp
        obtain ⟨j, j0, j1, ej⟩ := I.lt p (List.mem_append_right _ (List.mem_map.mpr ⟨x, hsub x hx, ex⟩)); exact ⟨j, j0, by omega, ej⟩
    · refine List.Nodup.sublist ?_ I.nd
      refine List.Sublist.append (List.Sublist.refl _) (List.Sublist.map _ ?_)
      rw [eZ, eZZ]
      exact List.Sublist.append (List.Sublist.refl _) (List.sublist_cons_self _ _)
    · rw [eE'] at hq
      rcases List.mem_append.mp hq with hq | hq
      · obtain ⟨j, j0, j1, ej⟩ := I.en q hq; exact ⟨j, j0, by omega, ej⟩
      · rw [List.mem_singleton.mp hq]; exact ⟨jj, jj0, by omega, ejj⟩
    · simp only [List.length_map]; omega
    · rw [eE']; simp; omega
    · omega
  have hz1' := I'.z1
  have hz2' := I'.z2
  simp only [List.length_map] at hz1'
  have AO := aok_of (E := E') cf' I'.nd (by omega)
  have AO' : AOk ⟨house, carryF vals ws, W, del2 (S.map gOf) z.1, E ++ [(false, z.1)]⟩ := by rw [hdel, ← evals, ← eE']; exact AO
  obtain ⟨M6, b', e6, C6, F6, hb'⟩ := run_end 1 C3 z.1 hidok hlk (by have := hzw.1; unfold gOf grZ; simp; omega) ws cf.vi (fun q hq => ⟨(wok q hq).2.2, (cf.km _ (hkey q hq)).2, (wok q hq).1⟩) (by show vals.length + ws.length < 900000; omega) AO'
  simp only [hdel, ← evals, ← eE'] at e6 C6
  obtain ⟨a1, a2, a3, a4⟩ := after_look (E := E') cf'
  rw [a1] at e6
  rw [a2, a3, a4] at C6
  have lts5 := H3.lts
  have clt5 := C3.lts
  have nks : ∀ k, k ≠ c → k ≠ g → k ≠ e → k ≠ a → k ∉ [c, g, e, a] := fun k q1 q2 q3 q4 => by
    simp only [List.mem_cons, List.not_mem_nil, or_false, not_or]; exact ⟨q1, q2, q3, q4⟩
  have H6 := H3.fr F6 ⟨nks 0 (nd_ne nd 1 2 rfl rfl (by decide)) (nd_ne nd 1 4 rfl rfl (by decide)) (nd_ne nd 1 5 rfl rfl (by decide)) (nd_ne nd 1 3 rfl rfl (by decide)), nks vd (nd_ne nd 6 2 rfl rfl (by decide)) (nd_ne nd 6 4 rfl rfl (by decide)) (nd_ne nd 6 5 rfl rfl (by decide)) (nd_ne nd 6 3 rfl rfl (by decide)), nks mn (nd_ne nd 7 2 rfl rfl (by decide)) (nd_ne nd 7 4 rfl rfl (by decide)) (nd_ne nd 7 5 rfl rfl (by decide)) (nd_ne nd 7 3 rfl rfl (by decide)), nks ak (nd_ne nd 8 2 rfl rfl (by decide)) (nd_ne nd 8 4 rfl rfl (by decide)) (nd_ne nd 8 5 rfl rfl (by decide)) (nd_ne nd 8 3 rfl rfl (by decide)), nks sg (nd_ne nd 9 2 rfl rfl (by decide)) (nd_ne nd 9 4 rfl rfl (by decide)) (nd_ne nd 9 5 rfl rfl (by decide)) (nd_ne nd 9 3 rfl rfl (by decide))⟩
  have nd' : (Dl c a b' g e vd mn ak sg).Nodup := Dl_nb nd hb' (fun k hk => by
    simp only [List.mem_cons, List.not_mem_nil, or_false] at hk
    rcases hk with q | q | q | q | q | q | q | q | q <;> rw [q] <;> omega)
  refine ⟨M6, b', ys2, vals', S', E', some (sV z), some (wrs ws), ?_, H6, C6, nd', cf', I'⟩
  have ho := C3.o
  have mt : P.meth "Counter" "end" = some ("Counter.end" : PySem.Str) := by kernel_rfl
  have nf : (fs house a b g e).lookup ("end" : PySem.Str) = none := by rfl
  have s0 := fun m => sV_0 z m
  have e2' : callN P 12 "_law_ended" [.ref 0, sV z, .ref vd] M2 = .ok (wrs ws) M3 := e2
  generalize (pass vals' S' E' W).T.map tV = TV at e6 ⊢
  generalize wrs ws = WS at *
  generalize sV z = SV at *
  unfold Lc
  simp [rr, hlen, gI, e1, hp, e2', s0, ho, mt, nf, e6]

end L34

namespace L34
open Py
theorem ifs_seq {P : Prog} {C : Calls} {c : E} {A B R : List S} {l l2 : Loc} {m m1 m2 : Mem} {t : Bool} (hc : evalE P C c l m = .ok (.bool t) m1) (hx : execB P C (if t then A else B) l m1 = .nx l2 m2) : execB P C (.ifs c A B :: R) l m = execB P C R l2 m2 := by
  rw [ev_execB1, ev_execS10, hc, bf_ok]
  cases t
  · have hx' : execB P C B l m1 = .nx l2 m2 := hx
    show (execB P C B l m1).seq _ = _
    rw [hx', fs_nx]
  · have hx' : execB P C A l m1 = .nx l2 m2 := hx
    show (execB P C A l m1).seq _ = _
    rw [hx', fs_nx]
/-- one turn of the law's loop -/
theorem turn (ns : List Int) (x2 x4 : Option Val) {m : Mem} {c a b g e vd mn ak sg : Nat} {house : Int} {vals : List (Ky × Val)} {W : List (Id × List Rq)} {S : List Sd} {E : List (Bool × Id)} {menu : List Ky} {xs : List Int} {step : Int} {i : Nat} (h : Lw m c a b g e vd mn ak sg house vals W S E menu xs step i) (hi : i < 35) (hst : 0 ≤ step ∧ step < 2520) (x11 x12 x13 x14 : Option Val) :
    ∃ m' b' vals' W' S' E' xs' y11 y12 y13 y14, execB P (callN P 12) b_law_1 (Lc ns x2 x4 c vd mn step ak sg (some (.int i)) x11 x12 x13 x14) m =
        .nx (Lc ns x2 x4 c vd mn step ak sg (some (.int i)) y11 y12 y13 y14) m' ∧ Lw m' c a b' g e vd mn ak sg house vals' W' S' E' menu xs' step (i + 1) := by
  obtain ⟨H, C, nd, cf, I⟩ := h
  obtain ⟨y, ys, y0, y1, py, ey⟩ := draw 11 m H.lts.1 H.hp 5 (by decide)
  rw [← pw_self H.p0] at ey
  have n0 := fun j (x : Nat) (hx : (Dl c a b g e vd mn ak sg)[j]? = some x) (hj : j ≠ 1) => (nd_ne nd 1 j (x := 0) rfl hx (Ne.symm hj))
  have h1 : Lw (pw m 0 ys) c a b g e vd mn ak sg house vals W S E menu ys step i :=
    ⟨H.pool py ⟨n0 6 vd rfl (by decide), n0 7 mn rfl (by decide), n0 8 ak rfl (by decide), n0 9 sg rfl (by decide)⟩, C.set _ (n0 2 c rfl (by decide)).symm (n0 3 a rfl (by decide)).symm (n0 0 b rfl (by decide)).symm (n0 4 g rfl (by decide)).symm (n0 5 e rfl (by decide)).symm, nd, cf, I⟩
  obtain ⟨n, en⟩ : ∃ n : Int, n = S.length := ⟨_, rfl⟩
  have hl : bltop .len [.ref sg] (pw m 0 ys) = .ok (.int n) (pw m 0 ys) := len_list h1.H.ls (by rw [List.length_map, en])
  obtain ⟨t, ht, hS⟩ : ∃ t : Bool, evalE P (callN P 12) (.bor (.cmp .lt (.call "_law_draw" [(.var 1), (.lit (.int 5))]) (.lit (.int 3))) (.cmp .eq (.blt .len [(.var 9)]) (.lit (.int 0)))) (Lc ns x2 x4 c vd mn step ak sg (some (.int i)) x11 x12 x13 x14) m = .ok (.bool t) (pw m 0 ys) ∧ (t = false → S ≠ []) := by
    by_cases q : y < 3
    · exact ⟨true, by unfold Lc; simp [ey, q, gc_same], fun z => by cases z⟩
    · refine ⟨n == 0, by unfold Lc; simp [ey, q, hl, gc_same], fun z e => ?_⟩
      have : n = 0 := by rw [en, e]; rfl
      rw [this] at z; exact absurd z (by decide)
  have fin : ∀ {m2 : Mem} {b2 : Nat} {vals2 : List (Ky × Val)} {W2 : List (Id × List Rq)} {S2 : List Sd} {E2 : List (Bool × Id)} {xs2 : List Int} {z11 z13 z14 : Option Val} {A : List Py.S},
      execB P (callN P 12) A (Lc ns x2 x4 c vd mn step ak sg (some (.int i)) x11 x12 x13 x14) (pw m 0 ys) = .nx (Lc ns x2 x4 c vd mn step ak sg (some (.int i)) z11 (some (.tup ((pass vals2 S2 E2 W2).T.map tV))) z13 z14) m2 → Lh m2 vd mn ak sg vals2 W2 S2 menu xs2 → CtA m2 c a b2 g e ⟨house, vals2, (pass vals2 S2 E2 W2).L, (pass vals2 S2 E2 W2).S.map gOf, (pass vals2 S2 E2 W2).E⟩ → (Dl c a b2 g e vd mn ak sg).Nodup → Cf house vals2 W2 S2 menu → Idz step (i + 1) W2 (S2.map (·.1)) E2 vals2.length →
      ∃ m' b' vals' W' S' E' xs' y11 y12 y13 y14, (∀ l, execB P (callN P 12) A (Lc ns x2 x4 c vd mn step ak sg (some (.int i)) x11 x12 x13 x14) (pw m 0 ys) = .nx l m2 → execB P (callN P 12) (b_law_1.drop 1) l m2 = .nx (Lc ns x2 x4 c vd mn step ak sg (some (.int i)) y11 y12 y13 y14) m') ∧ Lw m' c a b' g e vd mn ak sg house vals' W' S' E' menu xs' step (i + 1) := fun {m2 b2 vals2 W2 S2 E2 xs2 z11 z13 z14 A} e1 H2 C2 F2 cf2 I2 => by
    have q1 := I2.z1
    have q2 := I2.z2
    simp only [List.length_map] at q1
    obtain ⟨m', et, H3, C3, cf3⟩ := tail ns x2 x4 step H2 C2 F2 cf2 (List.nodup_append.mp I2.nd).1 (by omega) (some (.int i)) z11 z13 z14
    have I3 := I2.pass vals2
    refine ⟨m', b2, vals2, _, _, _, xs2, z11, (some (.tup ((pass vals2 S2 E2 W2).T.map tV))), z13, z14, fun l el => ?_, ⟨H3, C3, F2, cf3, I3⟩⟩
    rw [e1] at el
    injection el with el
    rw [← el]; exact et
  cases t with
  | true =>
    obtain ⟨m2, b2, xs2, W2, z11, e1, H2, C2, F2, cf2, I2⟩ := turn_ask ns x2 x4 h1 hi hst x11 x12 x13 x14
    obtain ⟨m', b', vals', W', S', E', xs', y11, y12, y13, y14, et, hw⟩ := fin e1 H2 C2 F2 cf2 I2
    refine ⟨m', b', vals', W', S', E', xs', y11, y12, y13, y14, ?_, hw⟩
    show execB P (callN P 12) (_ :: b_law_1.drop 1) _ m = _
    exact (ifs_seq ht e1).trans (et _ e1)
  | false =>
    obtain ⟨m2, b2, xs2, vals2, S2, E2, z13, z14, e1, H2, C2, F2, cf2, I2⟩ := turn_end ns x2 x4 h1 hi (hS rfl) (some (.int i)) x11 x12 x13 x14
    obtain ⟨m', b', vals', W', S', E', xs', y11, y12, y13, y14, et, hw⟩ := fin e1 H2 C2 F2 cf2 I2
    refine ⟨m', b', vals', W', S', E', xs', y11, y12, y13, y14, ?_, hw⟩
    show execB P (callN P 12) (_ :: b_law_1.drop 1) _ m = _
    exact (ifs_seq ht e1).trans (et _ e1)
/-- all turns -/
theorem turns (ns : List Int) (x2 x4 : Option Val) {m : Mem} {c a b g e vd mn ak sg : Nat} {house : Int} {vals : List (Ky × Val)} {W : List (Id × List Rq)} {S : List Sd} {E : List (Bool × Id)} {menu : List Ky} {xs : List Int} {step : Int} (h : Lw m c a b g e vd mn ak sg house vals W S E menu xs step 0) (n : Nat) (hn : n ≤ 35) (hst : 0 ≤ step ∧ step < 2520) (x10 x11 x12 x13 x14 : Option Val) :
    ∃ l' m', forLoop none (.name 10) (execB P (callN P 12) b_law_1) ((List.range n).map fun (i : Nat) => .int i) (Lc ns x2 x4 c vd mn step ak sg x10 x11 x12 x13 x14) m = .nx l' m' ∧
      ∃ b vals W S E xs x10 x11 x12 x13 x14, l' = Lc ns x2 x4 c vd mn step ak sg x10 x11 x12 x13 x14 ∧ Lw m' c a b g e vd mn ak sg house vals W S E menu xs step n := by
  obtain ⟨l', m', el, hl⟩ := for_all (chk := none) (t := .name 10) (b := execB P (callN P 12) b_law_1) (xs := (List.range n).map fun (i : Nat) => .int i)
    (fun i l m => ∃ b vals W S E xs x10 x11 x12 x13 x14, l = Lc ns x2 x4 c vd mn step ak sg x10 x11 x12 x13 x14 ∧ Lw m c a b g e vd mn ak sg house vals W S E menu xs step i)
    (fun _ _ _ _ => still_none _) (fun i x l m hx hi => by
      obtain ⟨b, vals, W, S, E, xs, x10, x11, x12, x13, x14, el, hw⟩ := hi
      obtain ⟨hin, ex⟩ := rng_get hx
      subst el ex
      refine ⟨_, asg_name _ _ _ _, ?_⟩
      obtain ⟨m', b', vals', W', S', E', xs', y11, y12, y13, y14, et, h'⟩ := turn ns x2 x4 hw (by omega) hst x11 x12 x13 x14
      refine Flow.by (show execB P (callN P 12) b_law_1 (Lc ns x2 x4 c vd mn step ak sg (some (.int i)) x11 x12 x13 x14) m = _ from et) ?_
      exact Flow.nx_of ⟨_, _, _, _, _, _, _, _, _, _, _, rfl, h'⟩) (l := Lc ns x2 x4 c vd mn step ak sg x10 x11 x12 x13 x14) (m := m) ⟨b, vals, W, S, E, xs, x10, x11, x12, x13, x14, rfl, h⟩
  rw [List.length_map, List.length_range] at hl
  exact ⟨l', m', el, hl⟩

end L34

namespace L34
open Py
/-! ### the law -/
def M3 (ys : List Int) (menu : List Ky) (V : List (Ky × Val)) : Mem := [.list (ys.map .int), .list (menu.map kyV), .dict true (mp kyV id V)]
theorem seg1 (ns : List Int) (hn : ns.length ≤ 63) : ∃ (h : Int) (menu : List Ky) (ws : List (Ky × Val)) (ys : List Int), (2 ≤ h ∧ h ≤ 5) ∧ Pl ys ∧ menu ≠ [] ∧ menu.length < 20 ∧ (∀ k ∈ menu, KS k ∧ k.1 = h) ∧ menu.Nodup ∧ StOk h ws ∧
    execB P (callN P 12) (f_law.body.take 5) (start f_law.ns [.fro ns]) [] = .nx [some (.fro ns), some (.ref 0), some (.int h), some (.ref 1), some (wrs ws), some (.ref 2), none, none, none, none, none, none, none, none, none] (M3 ys menu (putF ws)) := by
  obtain ⟨xs, hp, _, e1⟩ := run_pool 11 [] ns 1000 (by decide) hn
  have e1' : callN P 12 "_law_pool" [.fro ns, .int 1000] [] = .ok (.ref 0) [.list (xs.map .int)] := e1
  obtain ⟨y1, z1, a1, b1, p1, d1⟩ := draw 11 [.list []] (r := 0) (by decide) hp 4 (by decide)
  have d1' : callN P 12 "_law_draw" [.ref 0, .int 4] [.list (xs.map .int)] = .ok (.int y1) [.list (z1.map .int)] := d1
  obtain ⟨menu, z2, p2, mne, ml, mk, msh, mnd, e2⟩ := run_menu 9 [.list []] (r := 0) (by decide) p1 (h := 2 + y1) (by omega)
  have e2' : callN P 12 "_law_menu" [.ref 0, .int (2 + y1)] [.list (z1.map .int)] = .ok (.ref 1) [.list (z2.map .int), .list (menu.map kyV)] := e2
  have hq : ∀ k ∈ menu, Qh (2 + y1) k := fun k hk => by
    refine ⟨(mk k hk).1, (mk k hk).2, fun _ => trivial, fun h5 => ?_, fun h5 => ?_⟩
    · obtain ⟨ks, e⟩ := mk k hk
      cases ks with
      | store h' nm w hh' hn hw => have : h' = 2 + y1 := e; omega
      | purse n hn => exact .inr ⟨_, rfl⟩
      | away w hw => have : (1 : Int) = 2 + y1 := e; omega
      | bank nm hn => exact .inl rfl
    · obtain ⟨ks, e⟩ := mk k hk
      cases ks with
      | store h' nm w hh' hn hw => exact ⟨_, rfl⟩
      | purse n hn => have : (5 : Int) = 2 + y1 := e; omega
      | away w hw => have : (1 : Int) = 2 + y1 := e; omega
      | bank nm hn => have : (5 : Int) = 2 + y1 := e; omega
  obtain ⟨ws, z3, p3, st, e3⟩ := run_startL 9 (m := [.list [], .list (menu.map kyV)]) (r := 0) (mn := 1) (by simp) p2 (h := 2 + y1) (by omega) rfl (by decide) hq (by omega)
  have e3' : callN P 12 "_law_start" [.ref 0, .ref 1] [.list (z2.map .int), .list (menu.map kyV)] = .ok (wrs ws) [.list (z3.map .int), .list (menu.map kyV)] := e3
  have e4 := run_values 11 [.list (z3.map .int), .list (menu.map kyV)] st.c (by have := st.n; omega)
  have e4' : callN P 12 "_law_values" [wrs ws] [.list (z3.map .int), .list (menu.map kyV)] = .ok (.ref 2) (M3 z3 menu (putF ws)) := e4
  refine ⟨2 + y1, menu, ws, z3, by omega, p3, mne, ml, mk, mnd, st, ?_⟩
  generalize wrs ws = WS at *
  generalize M3 z3 menu (putF ws) = MM at *
  generalize menu.map kyV = MV at *
  simp [f_law, start, e1', d1', e2', e3', e4']
theorem vI_start {h : Int} {ws : List (Ky × Val)} (st : StOk h ws) {k : Ky} (f : fr k) : 0 ≤ vI (putF ws) k := by
  have nk : k.2.1 ∉ recN := by rcases f with f | f <;> rw [f] <;> decide
  unfold vI valAt
  cases e : look2 (putF ws) k with
  | none =>
    have : firstV k.2.1 = .int 0 := by unfold firstV; rw [if_neg (fun z => nk z.1)]
    show 0 ≤ (match firstV k.2.1 with | .int i => i | _ => 0)
    rw [this]; exact Int.le_refl _
  | some v =>
    obtain ⟨c, c0, ec⟩ := st.f _ (putF_mem (look2_mem e)) f
    have ec : v = .int c := ec
    subst ec
    exact c0
theorem law_end (ns : List Int) {h : Int} {menu : List Ky} {ws : List (Ky × Val)} {ys : List Int} (hh : 2 ≤ h ∧ h ≤ 5) (hp : Pl ys) (mne : menu ≠ []) (ml : menu.length < 20) (mk : ∀ k ∈ menu, KS k ∧ k.1 = h) (mnd : menu.Nodup) (st : StOk h ws) :
    ∃ m', execB P (callN P 12) (f_law.body.drop 5) [some (.fro ns), some (.ref 0), some (.int h), some (.ref 1), some (wrs ws), some (.ref 2), none, none, none, none, none, none, none, none, none] (M3 ys menu (putF ws)) = .ret (.bool true) m' := by
  have hws : ∀ w ∈ ws, okk w.2 = true := fun w hw => by obtain ⟨c, e⟩ := st.c w hw; rw [e]; rfl
  have n1 := run_new 9 (M3 ys menu (putF ws)) h (by omega) ws hws (by have := st.n; omega)
  rw [← putF_start (fun w hw => (st.k w hw).2)] at n1
  have hV : ∀ p ∈ putF ws, ∃ c, p.2 = .int c := fun p hp => st.c p (putF_mem hp)
  have hVl := putF_len ws
  have hwsn := st.n
  have kv0 : Kv (putF ws) [] := fun k f => ⟨vI_start st f, fun y hy => by cases hy⟩
  obtain ⟨V, eV⟩ : ∃ V, V = putF ws := ⟨_, rfl⟩
  rw [← eV] at n1 hV hVl kv0 ⊢
  have n1' : callN P 12 "Counter" [.int h, wrs ws] (M3 ys menu V) = .ok (.ref 3) (newM (M3 ys menu V) h V) := n1
  have vi : VI V := ⟨fun p hp => by obtain ⟨c, e⟩ := hV p hp; rw [e]; rfl, fun p hp _ => hV p hp⟩
  obtain ⟨step, z1, s0, s1, p1, d1⟩ := draw 11 (newM (M3 ys menu V) h V) (r := 0) (by unfold newM; simp) hp 2520 (by decide)
  have d1' : callN P 12 "_law_draw" [.ref 0, .int 2520] (newM (M3 ys menu V) h V) = .ok (.int step) (newM (M3 z1 menu V) h V) := d1
  obtain ⟨L1, eL1⟩ : ∃ L1 : Mem, L1 = newM (M3 z1 menu V) h V := ⟨_, rfl⟩
  have l1 : L1.length = 8 := by rw [eL1]; rfl
  have l2 : (L1 ++ [Ob.dict true []]).length = 9 := by simp [l1]
  obtain ⟨n, z2, n0, n31, p2, d2⟩ := draw 11 (L1 ++ [Ob.dict true []] ++ [Ob.list []]) (r := 0) (by simp) p1 35 (by decide)
  have d2' : callN P 12 "_law_draw" [.ref 0, .int 35] (L1 ++ [Ob.dict true []] ++ [Ob.list []]) = .ok (.int n) (newM (M3 z2 menu V) h V ++ [Ob.dict true []] ++ [Ob.list []]) := by rw [eL1] at d2 ⊢; exact d2
  obtain ⟨M, eM⟩ : ∃ M : Mem, M = newM (M3 z2 menu V) h V ++ [Ob.dict true []] ++ [Ob.list []] := ⟨_, rfl⟩
  have Cn := newM_ct (M3 z2 menu V) h V
  have L : Lw M 3 4 5 6 7 2 1 8 9 h V [] [] [] menu z2 step 0 := by
    rw [eM]
    exact ⟨⟨rfl, p2, rfl, rfl, rfl, rfl⟩, (Cn.app _).app _, by unfold Dl; decide, ⟨vi, mk, ⟨mne, ml⟩, mnd, (fun a ha => by cases ha), (fun z hz => by cases hz), (fun x hx => by cases hx), kv0, (fun x hx => by cases hx)⟩, ⟨(fun p hp => by cases hp), .nil, (fun p hp => by cases hp), by simp, by simp, by omega⟩⟩
  rw [← eM] at d2'
  obtain ⟨l', m', el, b, vals, W, S, E, xs, x10, x11, x12, x13, x14, el', L'⟩ := turns ns (some (.int h)) (some (wrs ws)) L n.toNat (by omega) ⟨s0, s1⟩ none none none none none
  subst el'
  have hj : -4611686018427387904 ≤ n ∧ n < 4611686018427387904 := by omega
  refine ⟨m', ?_⟩
  unfold Lc at el
  generalize wrs ws = WS at *
  simp only [List.append_assoc, List.cons_append, List.nil_append] at d2' l2
  simp [f_law, n1', d1', show (0 : Nat) ≤ SZ by decide, ← eL1, l1, d2', hj, el]
def depth : Nat := 13
theorem law_true (ns : List Int) (hn : ns.length ≤ 63) : ∃ m, callN tab.prog depth ("law" : PySem.Str) [.fro ns] [] = .ok (.bool true) m := by
  show ∃ m, callN P (12 + 1) "law" [.fro ns] [] = .ok (.bool true) m
  rw [callN_fn e_law rfl]
  obtain ⟨h, menu, ws, ys, hh, hp, mne, ml, mk, mnd, st, e1⟩ := seg1 ns hn
  obtain ⟨m', e2⟩ := law_end ns hh hp mne ml mk mnd st
  have hb : f_law.body = f_law.body.take 5 ++ f_law.body.drop 5 := by rfl
  have ex : execB P (callN P 12) f_law.body (start f_law.ns [.fro ns]) [] = .ret (.bool true) m' := by
    rw [hb, execB_app, e1, fs_nx, e2]
  rw [ex]
  refine ⟨[], ?_⟩
  show gc [] (.ok (.bool true) m') = _
  exact gc_app (m := []) (g := m') (by simp)

end L34

open PySem PySem.W PySem.Calls PyProof.Rows
theorem PySem.Challenge.cw_oncecoin_k34_promised_stays_there_holds : PySem.Challenge.rw_oncecoin_k34_promised_stays_there.Holds := by
  w_on; o_law
  refine HandSHeadRun.head_any (r := OpenLaw.row PySem.Challenge.rw_oncecoin_k34_promised_stays_there) (q := view (OpenLaw.row PySem.Challenge.rw_oncecoin_k34_promised_stays_there).prog [52]) (H := L34.hk) (ob := L34.ob) (M := 6000) (loose := L34.loose) (d := HandSHeadRun.topDef (OpenLaw.row PySem.Challenge.rw_oncecoin_k34_promised_stays_there).prog 52) (kwd := []) L34.ob_eq
    (by kernel_rfl) (fun s => by kernel_rfl) L34.run (by kernel_rfl) (by kernel_rfl) (by kernel_rfl) (by rfl) (by first | assumption | decide +kernel) (by decide +kernel) ⟨rfl, rfl, rfl, rfl, rfl, by decide +kernel⟩ ?hw ?hc
  case hw => w_witness2
  case hc =>
    exact Py.end_of (l := PySem.Challenge.rw_oncecoin_k34_promised_stays_there) (n := 63) (D := L34.depth) (dl := L34.d_law) rfl (by decide) (by kernel_rfl) ⟨rfl, by decide, by decide⟩ (by kernel_rfl) L34.chk L34.oks (by kernel_rfl) (by kernel_rfl) rfl (by kernel_rfl)
      (fun K f fd F s u => F.bindsA (ps := [("_law_script" : PySem.Str)]) (fun _ _ _ _ _ _ us hl => match us, hl with | [_], _ => rfl) s [u] rfl) L34.law_true
