import PyProof.Rows.All
import Wide.All
import OpenK.AllK
import Wide.FinOn
import PyProof.P3Statements
import HandS.Base
import HandS.Call
import HandS.List
import HandS.Comp
import HandS.Dict
import HandS.Iter
import HandS.Text
import HandS.Deep
import HandS.Exc
import HandS.ExcOwn
import HandS.WordsExc
import HandS.IsInst
import HandS.Defaults
import HandS.TupAny
import KE.KTupSum
import HandS.HeadWalk
import HandS.Property
import HandS.IterVal
import HandS.OwnEq
import KE.KOwnIter
import HandS.HeadHook1
import HandS.HeadHook2
import HandS.Ends
import HandS.HeadEnd
import HandS.Head0
import HandS.Head1
import HandS.Head2
import PySem.Challenge.RW_oncecoin_k39_two_ends_over_a_bag
set_option linter.all false
set_option maxRecDepth 100000
set_option maxHeartbeats 0
set_option Elab.async false
/-! The plain language: values, cells, programs, their runs. -/
namespace Py
abbrev Str := PySem.Str

inductive Val where
  | none
  | bool (b : Bool)
  | int (i : Int)
  | str (s : List Nat)
  | tup (xs : List Val)
  | fro (xs : List Int)
  | ref (n : Nat)
  deriving Inhabited

inductive Ob where
  | list (xs : List Val)
  | dict (tk : Bool) (kvs : List (Val × Val))
  | inst (c : Str) (fs : List (Str × Val))
  deriving Inhabited

abbrev Mem := List Ob
abbrev Loc := List (Option Val)

mutual
def Val.under (n : Nat) : Val → Bool
  | .none => true
  | .bool _ => true
  | .int _ => true
  | .str _ => true
  | .tup xs => Val.underL n xs
  | .fro _ => true
  | .ref k => decide (k < n)
def Val.underL (n : Nat) : List Val → Bool
  | [] => true
  | x :: xs => Val.under n x && Val.underL n xs
end
/-! data: no cells in it -/
mutual
def Val.pl : Val → Bool
  | .none => true
  | .bool _ => true
  | .int _ => true
  | .str _ => true
  | .tup xs => Val.plL xs
  | .fro _ => false
  | .ref _ => false
def Val.plL : List Val → Bool
  | [] => true
  | x :: xs => Val.pl x && Val.plL xs
end
def Ob.under (n : Nat) : Ob → Bool
  | .list xs => Val.underL n xs
  | .dict _ kvs => kvs.all fun p => p.1.under n && p.2.under n
  | .inst _ fs => fs.all fun p => p.2.under n

/-! what == says of data -/
mutual
def Val.eqv : Val → Val → Bool
  | .none, .none => true
  | .bool a, .bool b => a == b
  | .bool a, .int j => (if a then 1 else 0) == j
  | .int i, .bool b => i == (if b then 1 else 0)
  | .int i, .int j => i == j
  | .str x, .str y => x == y
  | .tup xs, .tup ys => Val.eqvL xs ys
  | _, _ => false
def Val.eqvL : List Val → List Val → Bool
  | [], [] => true
  | x :: xs, y :: ys => Val.eqv x y && Val.eqvL xs ys
  | _, _ => false
end

mutual
def Val.depth : Val → Nat
  | .tup xs => Val.depthL xs + 1
  | .none => 0
  | .bool _ => 0
  | .int _ => 0
  | .str _ => 0
  | .fro _ => 0
  | .ref _ => 0
def Val.depthL : List Val → Nat
  | [] => 0
  | x :: xs => max (Val.depth x) (Val.depthL xs)
end

inductive Res (α : Type) where
  | ok (a : α) (m : Mem)
  | exc (c : Str) (fs : List (Str × Val)) (m : Mem)
  | err
@[simp] def Res.bind {α β : Type} (r : Res α) (f : α → Mem → Res β) : Res β := match r with
  | .ok a m => f a m
  | .exc c fs m => .exc c fs m
  | .err => .err

inductive Flow where
  | nx (l : Loc) (m : Mem)
  | ret (v : Val) (m : Mem)
  | brk (l : Loc) (m : Mem)
  | cnt (l : Loc) (m : Mem)
  | exc (l : Loc) (c : Str) (fs : List (Str × Val)) (m : Mem)
  | err

inductive BOp where
  | add | sub | mul | fdiv | mod | pow
  deriving DecidableEq
inductive COp where
  | eq | ne | lt | le | gt | ge | isn | notn | mem | nmem
  deriving DecidableEq

inductive Blt where
  | len | min | max | abs | int | sum | list | tuple
  deriving DecidableEq
inductive BM where
  | append | pop | reverse | clear
  deriving DecidableEq

/-- the kinds that isinstance tells -/
inductive TyK where
  | none | bool | int | str | tuple | list | dict
  deriving DecidableEq

inductive Tg where
  | name (i : Nat)
  | tup (ts : List Tg)

mutual
inductive E where
  | lit (v : Val)
  | var (i : Nat)
  | glob (x : Str)
  | bin (o : BOp) (a b : E)
  | neg (a : E)
  | cmp (o : COp) (a b : E)
  | chain (o p : COp) (a b c : E)
  | band (a b : E)
  | bor (a b : E)
  | bnot (a : E)
  | ite (c a b : E)
  | tup (es : List E)
  | lst (es : List E)
  | dct (tk : Bool) (ks vs : List E)
  | call (f : Str) (es : List E)
  | blt (f : Blt) (es : List E)
  | lenO (a : E)
  | listO (a : E)
  | join (o a : E)
  | bm (o : E) (f : BM) (es : List E)
  | isi (a : E) (ty : TyK)
  | meth (o : E) (f : Str) (es : List E)
  | attr (o : E) (f : Str)
  | idx (a i : E)
  | sliceB (a lo hi : E)
  | sliceL (a lo : E)
  | sliceH (a hi : E)
  | comp (elt : E) (tg : Tg) (it : It)
  | compIf (elt : E) (tg : Tg) (it : It) (cond : E)
inductive It where
  | seq (e : E)
  | own (e : E)
  | range1 (a : E)
  | range2 (a b : E)
  | zip (a b : E)
end

inductive S where
  | pass
  | expr (e : E)
  | set (i : Nat) (e : E)
  | asg (t : Tg) (e : E)
  | aug (i : Nat) (o : BOp) (e : E)
  | setAttr (o : E) (f : Str) (e : E)
  | setIdx (o i e : E)
  | del (o i : E)
  | ret (e : Option E)
  | ifs (c : E) (a b : List S)
  | whl (c : E) (b : List S)
  | fr (t : Tg) (it : It) (b : List S)
  | brk
  | cnt
  | dead

structure Fn where
  np : Nat
  ns : Nat
  body : List S

/-- an entry of the program: a def, a class (its __init__'s key) -/
inductive Ent where
  | fn (f : Fn)
  | mth (f : Fn)
  | cls (init : Str)

structure Prog where
  ent : Str → Option Ent
  meth : Str → Str → Option Str
  flds : Str → List Str
  /-- a property: its getter's key -/
  prop : Str → Str → Option Str
  /-- __iter__ walks this field -/
  iter : Str → Option Str
  glob : Str → Option Val

def SZ : Nat := 16777216

def putAttr (f : Str) (v : Val) : List (Str × Val) → List (Str × Val)
  | [] => [(f, v)]
  | (g, x) :: r => if g = f then (g, v) :: r else (g, x) :: putAttr f v r

/-! ### operations on values -/
def b2i (b : Bool) : Int := if b then 1 else 0
def Mem.list (m : Mem) (k : Nat) : Option (List Val) := match m[k]? with
  | some (.list xs) => some xs
  | _ => none
def Mem.seq (m : Mem) (v : Val) : Option (List Val) := match v with
  | .tup xs => some xs
  | .fro xs => some (xs.map .int)
  | .ref k => m.list k
  | _ => none

def big64 : Int := 18446744073709551616
def mulOk (i j : Int) : Prop := (-big64 < i ∧ i < big64) ∨ (-big64 < j ∧ j < big64)
instance (i j : Int) : Decidable (mulOk i j) := by unfold mulOk; infer_instance
def divOk (j : Int) : Prop := j ≠ 0 ∧ j.natAbs < 1073741824
instance (j : Int) : Decidable (divOk j) := by unfold divOk; infer_instance
def powOk (i j : Int) : Prop := 0 ≤ j ∧ j ≤ 1000000 ∧ i.natAbs < 18446744073709551616
instance (i j : Int) : Decidable (powOk i j) := by unfold powOk; infer_instance

def binop (o : BOp) (x y : Val) (m : Mem) : Res Val := match o, x, y with
  | .add, .int i, .int j => .ok (.int (i + j)) m
  | .add, .int i, .bool b => .ok (.int (i + b2i b)) m
  | .add, .str a, .str b => if a.length + b.length ≤ SZ then .ok (.str (a ++ b)) m else .err
  | .add, .tup xs, .tup ys => if xs.length + ys.length ≤ SZ then .ok (.tup (xs ++ ys)) m else .err
  | .add, .ref a, .ref b => match m.list a, m.list b with
    | some xs, some ys => if xs.length + ys.length ≤ SZ then .ok (.ref m.length) (m ++ [.list (xs ++ ys)]) else .err
    | _, _ => .err
  | .sub, .int i, .int j => .ok (.int (i - j)) m
  | .mul, .int i, .int j => if mulOk i j then .ok (.int (i * j)) m else .err
  | .mul, .ref a, .int k => match m.list a with
    | some xs => if (-9223372036854775808 ≤ k ∧ k < 9223372036854775808) ∧ xs.length * k.toNat ≤ SZ then .ok (.ref m.length) (m ++ [.list (List.replicate k.toNat xs).flatten]) else .err
    | none => .err
  | .fdiv, .int i, .int j => if divOk j then .ok (.int (i.fdiv j)) m else .err
  | .mod, .int i, .int j => if 0 < j then .ok (.int (i % j)) m else .err
  | .pow, .int i, .int j => if powOk i j then .ok (.int (i ^ j.toNat)) m else .err
  | _, _, _ => .err

/-- x op= y at a name -/
def augop (o : BOp) (x y : Val) (m : Mem) : Res Val := match o, x, y with
  | .add, .int i, .int j => .ok (.int (i + j)) m
  | .sub, .int i, .int j => .ok (.int (i - j)) m
  | .add, .str a, .str b => if a.length + b.length ≤ SZ then .ok (.str (a ++ b)) m else .err
  | _, _, _ => .err
def negop (x : Val) (m : Mem) : Res Val := match x with
  | .int i => .ok (.int (-i)) m
  | _ => .err

def Val.isNone : Val → Bool
  | .none => true
  | _ => false

/-- data to be compared: no cells in it, not too deep -/
def Val.dat (x : Val) : Bool := x.pl && decide (x.depth ≤ 60)
def datL (xs : List Val) : Bool := Val.plL xs && decide (Val.depthL xs ≤ 59)
def eqop (m : Mem) (x y : Val) : Option Bool := match x, y with
  | .ref a, .ref b => match m.list a, m.list b with
    | some xs, some ys => if datL xs && datL ys then some (Val.eqvL xs ys) else none
    | _, _ => none
  | x, y => if x.dat && y.dat then some (x.eqv y) else none
def ltop (x y : Val) : Option Bool := match x, y with
  | .int i, .int j => some (decide (i < j))
  | .str a, .str b => some (decide (a < b))
  | _, _ => none
/-! dicts: keys are ints and texts, or (tk) tuples of these -/
def flatKey : Val → Bool
  | .int _ => true
  | .str _ => true
  | _ => false
/-- tuples that no constant of a text is -/
def keyTag : List Val → Bool
  | [.int _, .int _] => true
  | .int _ :: .str _ :: _ => true
  | _ => false
def keyOk : Bool → Val → Bool
  | false, x => flatKey x
  | true, .tup xs => xs.all flatKey
  | true, _ => false
def putOk : Bool → Val → Bool
  | false, x => flatKey x
  | true, .tup xs => xs.all flatKey && keyTag xs
  | true, _ => false
def dlook : List (Val × Val) → Val → Option Val
  | [], _ => none
  | (k, v) :: r, x => if k.eqv x then some v else dlook r x
def dput : List (Val × Val) → Val → Val → List (Val × Val)
  | [], x, v => [(x, v)]
  | (k, w) :: r, x, v => if k.eqv x then (k, v) :: r else (k, w) :: dput r x v
def ddel : List (Val × Val) → Val → List (Val × Val)
  | [], _ => []
  | (k, w) :: r, x => if k.eqv x then ddel r x else (k, w) :: ddel r x

def memop (m : Mem) (x y : Val) : Option Bool := match y with
  | .str s => match x with
    | .str [c] => if s.length ≤ SZ then some (decide (c ∈ s)) else none
    | _ => none
  | .tup xs => if x.dat && datL xs then some (xs.any fun z => z.eqv x) else none
  | .ref k => match m[k]? with
    | some (.list xs) => if x.dat && datL xs then some (xs.any fun z => z.eqv x) else none
    | _ => none
  | _ => none
def cmpop (o : COp) (x y : Val) (m : Mem) : Option Bool := match o with
  | .eq => eqop m x y
  | .ne => (eqop m x y).map not
  | .lt => ltop x y
  | .gt => ltop y x
  | .le => match x, y with
    | .int i, .int j => some (decide (i ≤ j))
    | _, _ => none
  | .ge => match x, y with
    | .int i, .int j => some (decide (j ≤ i))
    | _, _ => none
  | .isn => match y with
    | .none => some x.isNone
    | _ => none
  | .notn => match y with
    | .none => some (!x.isNone)
    | _ => none
  | .mem => memop m x y
  | .nmem => (memop m x y).map not

def truth (m : Mem) (v : Val) : Option Bool := match v with
  | .none => some false
  | .bool b => some b
  | .int i => some (i != 0)
  | .str s => if s.length ≤ SZ then some (!s.isEmpty) else none
  | .tup xs => some (!xs.isEmpty)
  | .fro xs => some (!xs.isEmpty)
  | .ref k => match m[k]? with
    | some (.list xs) => some (!xs.isEmpty)
    | _ => none

def lenop (m : Mem) (v : Val) : Option Nat := match v with
  | .str s => if s.length ≤ SZ then some s.length else none
  | .tup xs => some xs.length
  | .fro xs => some xs.length
  | .ref k => match m[k]? with
    | some (.list xs) => some xs.length
    | _ => none
  | _ => none

def ixOf (n : Nat) (i : Int) : Option Nat := if 0 ≤ i then (if i < n then some i.toNat else none) else if -(n : Int) ≤ i then some (i + n).toNat else none
def atIx {α : Type} (xs : List α) (i : Int) : Option α := (ixOf xs.length i).bind fun j => xs[j]?
def idxop (m : Mem) (x i : Val) : Option Val := match x, i with
  | .str s, .int k => if s.length ≤ SZ then (atIx s k).map fun c => .str [c] else none
  | .tup xs, .int k => atIx xs k
  | .fro xs, .int k => (atIx xs k).map .int
  | .ref a, i => match m[a]? with
    | some (.list xs) => match i with
      | .int k => atIx xs k
      | _ => none
    | _ => none
  | _, _ => none
def cutIx (n d : Nat) : Option Int → Nat
  | none => d
  | some i => if i < 0 then (i + n).toNat else min i.toNat n
def cut {α : Type} (xs : List α) (lo hi : Option Int) : List α := (xs.drop (cutIx xs.length 0 lo)).take (cutIx xs.length xs.length hi - cutIx xs.length 0 lo)
def sliceop (m : Mem) (x : Val) (lo hi : Option Int) : Res Val := match x with
  | .str s => if s.length ≤ SZ then .ok (.str (cut s lo hi)) m else .err
  | .tup xs => .ok (.tup (cut xs lo hi)) m
  | .ref k => match m.list k with
    | some xs => .ok (.ref m.length) (m ++ [.list (cut xs lo hi)])
    | none => .err
  | _ => .err

def intsOf : List Val → Option (List Int)
  | [] => some []
  | .int i :: r => (intsOf r).map (i :: ·)
  | _ :: _ => none
def boolsOf : List Val → Option (List Bool)
  | [] => some []
  | .bool i :: r => (boolsOf r).map (i :: ·)
  | _ :: _ => none

def tyOf (m : Mem) (v : Val) : Option TyK := match v with
  | .none => some .none
  | .bool _ => some .bool
  | .int _ => some .int
  | .str _ => some .str
  | .tup _ => some .tuple
  | .fro _ => Option.none
  | .ref k => match m[k]? with
    | some (.list _) => some .list
    | some (.dict _ _) => some .dict
    | _ => Option.none
def isiK (t c : TyK) : Bool := decide (t = c) || (decide (t = .bool) && decide (c = .int))

def bltop (f : Blt) (vs : List Val) (m : Mem) : Res Val := match f with
  | .len => match vs with
    | [v] => match lenop m v with
      | some n => .ok (.int n) m
      | none => .err
    | _ => .err
  | .min => match vs with
    | [.int i, .int j] => .ok (.int (if j < i then j else i)) m
    | _ => .err
  | .max => match vs with
    | [.int i, .int j] => .ok (.int (if j > i then j else i)) m
    | _ => .err
  | .abs => match vs with
    | [.int i] => .ok (.int (if i < 0 then -i else i)) m
    | _ => .err
  | .int => match vs with
    | [.int i] => .ok (.int i) m
    | [.bool b] => .ok (.int (if b then 1 else 0)) m
    | _ => .err
  | .sum => match vs with
    | [v] => match (m.seq v).bind intsOf with
      | some ns => .ok (.int ns.sum) m
      | none => .err
    | _ => .err
  | .list => match vs with
    | [v] => match m.seq v with
      | some xs => .ok (.ref m.length) (m ++ [.list xs])
      | none => .err
    | _ => .err
  | .tuple => match vs with
    | [v] => match m.seq v with
      | some xs => .ok (.tup xs) m
      | none => .err
    | _ => .err

/-- the receiver is of the method's type -/
def recvOk (f : BM) (m : Mem) (x : Val) : Bool := match x with
  | .ref k => (m.list k).isSome
  | _ => false
/-- methods of built-in types -/
def bmop (f : BM) (o : Val) (vs : List Val) (m : Mem) : Res Val := match f with
  | .append => match o, vs with
    | .ref k, [v] => match m.list k with
      | some xs => if xs.length < SZ then .ok .none (m.set k (.list (xs ++ [v]))) else .err
      | none => .err
    | _, _ => .err
  | .pop => match o, vs with
    | .ref k, [] => match m.list k with
      | some xs => match xs[xs.length - 1]? with
        | some y => .ok y (m.set k (.list xs.dropLast))
        | none => .err
      | none => .err
    | .ref k, [.int i] => match m.list k with
      | some xs => match (ixOf xs.length i).bind fun j => (xs[j]?).map fun y => (j, y) with
        | some p => if -9223372036854775808 ≤ i ∧ i < 9223372036854775808 then .ok p.2 (m.set k (.list (xs.eraseIdx p.1))) else .err
        | none => .err
      | none => .err
    | _, _ => .err
  | .clear => match o, vs with
    | .ref k, [] => match m.list k with
      | some _ => .ok .none (m.set k (.list []))
      | none => .err
    | _, _ => .err
  | .reverse => match o, vs with
    | .ref k, [] => match m.list k with
      | some xs => .ok .none (m.set k (.list xs.reverse))
      | none => .err
    | _, _ => .err

/-! ### dropping cells that nothing holds -/
open Classical in
noncomputable def gc (m0 : Mem) (r : Res Val) : Res Val := match r with
  | .ok v m =>
    let n := m0.length
    let p := m.take n
    if n ≤ m.length ∧ ∀ (i : Nat) (o : Ob), p[i]? = some o → m0[i]? = some o ∨ o.under n = true then
      if v.under n = true then .ok v p
      else match v with
        | .ref k => match m[k]? with
          | some o => if o.under n = true ∧ n ≤ k then .ok (.ref n) (p ++ [o]) else .ok v m
          | none => .ok v m
        | _ => .ok v m
    else .ok v m
  | r => r

/-! ### targets -/
mutual
def assignT (m : Mem) : Tg → Val → Loc → Option Loc
  | .name i, v, l => some (l.set i (some v))
  | .tup ts, v, l => match v with
    | .tup xs => assignTs m ts xs l
    | _ => none
def assignTs (m : Mem) : List Tg → List Val → Loc → Option Loc
  | [], [], l => some l
  | t :: ts, x :: xs, l => (assignT m t x l).bind fun l' => assignTs m ts xs l'
  | _, _, _ => none
end

abbrev Calls := Str → List Val → Mem → Res Val

/-- a list that is walked stands still -/
def still (k : Option (Nat × List Val)) (m : Mem) : Prop := match k with
  | none => True
  | some (a, xs) => m.list a = some xs
noncomputable instance (k : Option (Nat × List Val)) (m : Mem) : Decidable (still k m) := Classical.propDecidable _

mutual
def Tg.slots : Tg → List Nat
  | .name i => [i]
  | .tup ts => Tg.slotsL ts
def Tg.slotsL : List Tg → List Nat
  | [] => []
  | t :: ts => Tg.slots t ++ Tg.slotsL ts
end
def wipeL (l : Loc) : List Nat → Loc
  | [] => l
  | v :: vs => (wipeL l vs).set v none

/-- the turns of a comprehension: el is asked for an item's value, none: the item is left out -/
noncomputable def compLoop (chk : Option (Nat × List Val)) (el : Val → Mem → Res (Option Val)) : List Val → Mem → Res (List Val)
  | [], m => if still chk m then .ok [] m else .err
  | x :: xs, m => if still chk m then (el x m).bind fun o m1 => (compLoop chk el xs m1).bind fun ys m2 => .ok (o.toList ++ ys) m2 else .err
def compEnd (r : Res (List Val)) : Res Val := match r with
  | .ok ys m => if ys.length ≤ SZ then .ok (.ref m.length) (m ++ [.list ys]) else .err
  | _ => .err
/-- the item's turn -/
def compEl (t : Tg) (l : Loc) (g : Loc → Mem → Res Val) (x : Val) (m : Mem) : Res (Option Val) := match assignT m t x (wipeL l t.slots) with
  | some l' => (g l' m).bind fun y m1 => .ok (some y) m1
  | none => .err
def compElIf (t : Tg) (l : Loc) (c g : Loc → Mem → Res Val) (x : Val) (m : Mem) : Res (Option Val) := match assignT m t x (wipeL l t.slots) with
  | some l' => (c l' m).bind fun b m1 => match truth m1 b with
    | some true => (g l' m1).bind fun y m2 => .ok (some y) m2
    | some false => .ok none m1
    | none => .err
  | none => .err

def intR (v : Val) (m : Mem) (f : Int → Res Val) : Res Val := match v with
  | .int i => f i
  | _ => .err
def boolR (r : Res Val) (m : Mem → Val → Option Bool) (f : Bool → Mem → Res Val) : Res Val := r.bind fun v m1 => match m m1 v with
  | some b => f b m1
  | none => .err

/-- len(x) by x's own __len__ -/
def lenR (P : Prog) (C : Calls) (x : Val) (m : Mem) : Res Val := match x with
  | .ref k => match m[k]? with
    | some (.inst c _) => match P.meth c "__len__" with
      | some q => match C q [x] m with
        | .ok (.int n) m2 => if 0 ≤ n ∧ n < 9223372036854775808 then .ok (.int n) m2 else .err
        | _ => .err
      | none => .err
    | _ => .err
  | _ => .err
/-- the list that x's own __iter__ walks -/
def iterL (P : Prog) (x : Val) (m : Mem) : Option Nat := match x with
  | .ref k => match m[k]? with
    | some (.inst c fs) => match P.iter c with
      | some f => match fs.lookup f with
        | some (.ref l) => if (m.list l).isSome = true then some l else none
        | _ => none
      | none => none
    | _ => none
  | _ => none
/-- list(x) by x's own __iter__ -/
def listR (P : Prog) (C : Calls) (x : Val) (m : Mem) : Res Val := match iterL P x m with
  | some l => match lenR P C x m with
    | .ok (.int n) m2 => if n ≤ SZ then match m2.list l with
        | some xs => .ok (.ref m2.length) (m2 ++ [.list xs])
        | none => .err
      else .err
    | _ => .err
  | none => .err
def ownR (P : Prog) (x : Val) (m : Mem) : Res (List Val × Option (Nat × List Val)) := match iterL P x m with
  | some l => match m.list l with
    | some xs => .ok (xs, some (l, xs)) m
    | none => .err
  | none => .err
def strsOf : List Val → Option (List (List Nat))
  | [] => some []
  | .str s :: r => (strsOf r).map (s :: ·)
  | _ :: _ => none
def joinL (sep : List Nat) : List (List Nat) → List Nat
  | [] => []
  | [x] => x
  | x :: y :: r => x ++ sep ++ joinL sep (y :: r)
def joinR (s : List Nat) (a : Val) (m : Mem) : Res Val := match (m.seq a).bind strsOf with
  | some ys => if (ys.map List.length).sum + ys.length * s.length ≤ SZ then .ok (.str (joinL s ys)) m else .err
  | none => .err
def strR (x : Val) (f : List Nat → Res Val) : Res Val := match x with
  | .str s => f s
  | _ => .err
/-- o.f, f a field or a property -/
def attrP (P : Prog) (C : Calls) (f : Str) (x : Val) (m : Mem) : Res Val := match x with
  | .ref k => match m[k]? with
    | some (.inst c fs) => match P.prop c f with
      | some q => match C q [x] m with
        | .ok v m2 => .ok v m2
        | _ => .err
      | none => match fs.lookup f with
        | some v => .ok v m
        | none => .err
    | _ => .err
  | _ => .err

mutual
noncomputable def evalE (P : Prog) (C : Calls) : E → Loc → Mem → Res Val
  | .lit v, _, m => .ok v m
  | .var i, l, m => match l[i]? with
    | some (some v) => .ok v m
    | _ => .err
  | .glob x, _, m => match P.glob x with
    | some v => .ok v m
    | none => .err
  | .bin o a b, l, m => (evalE P C a l m).bind fun x m1 => (evalE P C b l m1).bind fun y m2 => binop o x y m2
  | .neg a, l, m => (evalE P C a l m).bind fun x m1 => negop x m1
  | .cmp o a b, l, m => (evalE P C a l m).bind fun x m1 => (evalE P C b l m1).bind fun y m2 => match cmpop o x y m2 with
    | some c => .ok (.bool c) m2
    | none => .err
  | .chain o p a b c, l, m => (evalE P C a l m).bind fun x m1 => (evalE P C b l m1).bind fun y m2 => match cmpop o x y m2 with
    | some true => (evalE P C c l m2).bind fun z m3 => match cmpop p y z m3 with
      | some d => .ok (.bool d) m3
      | none => .err
    | some false => .ok (.bool false) m2
    | none => .err
  | .band a b, l, m => (evalE P C a l m).bind fun x m1 => match x with
    | .bool true => evalE P C b l m1
    | .bool false => .ok (.bool false) m1
    | _ => .err
  | .bor a b, l, m => (evalE P C a l m).bind fun x m1 => match x with
    | .bool false => evalE P C b l m1
    | .bool true => .ok (.bool true) m1
    | _ => .err
  | .bnot a, l, m => (evalE P C a l m).bind fun x m1 => match x with
    | .bool b => .ok (.bool (!b)) m1
    | _ => .err
  | .ite c a b, l, m => (evalE P C c l m).bind fun x m1 => match truth m1 x with
    | some true => evalE P C a l m1
    | some false => evalE P C b l m1
    | none => .err
  | .tup es, l, m => (evalL P C es l m).bind fun vs m1 => if vs.length ≤ SZ then .ok (.tup vs) m1 else .err
  | .lst es, l, m => (evalL P C es l m).bind fun vs m1 => if vs.length ≤ SZ then .ok (.ref m1.length) (m1 ++ [.list vs]) else .err
  | .dct tk ks vs, l, m => (evalL P C ks l m).bind fun xs m1 => (evalL P C vs l m1).bind fun ys m2 => match xs, ys with
    | [], [] => .ok (.ref m2.length) (m2 ++ [.dict tk []])
    | _, _ => .err
  | .call f es, l, m => (evalL P C es l m).bind fun vs m1 => C f vs m1
  | .blt f es, l, m => gc m ((evalL P C es l m).bind fun vs m1 => bltop f vs m1)
  | .isi a ty, l, m => (evalE P C a l m).bind fun x m1 => match tyOf m1 x with
    | some t => .ok (.bool (isiK t ty)) m1
    | none => .err
  | .meth o f es, l, m => (evalE P C o l m).bind fun x m1 => match x with
    | .ref k => match m1[k]? with
      | some (.inst c fs) => match P.meth c f with
        | some q => if (fs.lookup f).isNone = true then (evalL P C es l m1).bind fun vs m2 => C q (x :: vs) m2 else .err
        | none => .err
      | _ => .err
    | _ => .err
  | .bm o f es, l, m => (evalE P C o l m).bind fun x m1 => if recvOk f m1 x = true then (evalL P C es l m1).bind fun vs m2 => bmop f x vs m2 else .err
  | .attr o f, l, m => (evalE P C o l m).bind fun x m1 => attrP P C f x m1
  | .lenO a, l, m => (evalE P C a l m).bind fun x m1 => lenR P C x m1
  | .listO a, l, m => (evalE P C a l m).bind fun x m1 => listR P C x m1
  | .join o a, l, m => gc m ((evalE P C o l m).bind fun x m1 => strR x fun s => (evalE P C a l m1).bind fun y m2 => joinR s y m2)
  | .idx a i, l, m => (evalE P C a l m).bind fun x m1 => (evalE P C i l m1).bind fun y m2 => match idxop m2 x y with
    | some v => .ok v m2
    | none => .err
  | .sliceB a lo hi, l, m => (evalE P C a l m).bind fun x m1 => (evalE P C lo l m1).bind fun p m2 => intR p m2 fun i => (evalE P C hi l m2).bind fun q m3 => intR q m3 fun j => sliceop m3 x (some i) (some j)
  | .sliceL a lo, l, m => (evalE P C a l m).bind fun x m1 => (evalE P C lo l m1).bind fun p m2 => intR p m2 fun i => sliceop m2 x (some i) none
  | .sliceH a hi, l, m => (evalE P C a l m).bind fun x m1 => (evalE P C hi l m1).bind fun q m3 => intR q m3 fun j => sliceop m3 x none (some j)
  | .comp elt t it, l, m => (evalI P C it l m).bind fun w m1 => compEnd (compLoop w.2 (compEl t l (evalE P C elt)) w.1 m1)
  | .compIf elt t it c, l, m => (evalI P C it l m).bind fun w m1 => compEnd (compLoop w.2 (compElIf t l (evalE P C c) (evalE P C elt)) w.1 m1)
noncomputable def evalL (P : Prog) (C : Calls) : List E → Loc → Mem → Res (List Val)
  | [], _, m => .ok [] m
  | e :: es, l, m => (evalE P C e l m).bind fun x m1 => (evalL P C es l m1).bind fun xs m2 => .ok (x :: xs) m2
noncomputable def evalI (P : Prog) (C : Calls) : It → Loc → Mem → Res (List Val × Option (Nat × List Val))
  | .seq e, l, m => (evalE P C e l m).bind fun x m1 => match x with
    | .tup xs => .ok (xs, none) m1
    | .fro xs => .ok (xs.map .int, none) m1
    | .ref k => match m1.list k with
      | some xs => .ok (xs, some (k, xs)) m1
      | none => .err
    | .str s => .ok (s.map fun c => .str [c], none) m1
    | _ => .err
  | .own a, l, m => (evalE P C a l m).bind fun x m1 => ownR P x m1
  | .range1 a, l, m => (evalE P C a l m).bind fun x m1 => match x with
    | .int j => if -4611686018427387904 ≤ j ∧ j < 4611686018427387904 then .ok ((List.range j.toNat).map fun (i : Nat) => .int i, none) m1 else .err
    | _ => .err
  | .range2 a b, l, m => (evalE P C a l m).bind fun x m1 => (evalE P C b l m1).bind fun y m2 => match x, y with
    | .int i, .int j => if (-4611686018427387904 ≤ i ∧ i < 4611686018427387904) ∧ -4611686018427387904 ≤ j ∧ j < 4611686018427387904 then .ok ((List.range (j - i).toNat).map fun (k : Nat) => .int (i + k), none) m2 else .err
    | _, _ => .err
  | .zip a b, l, m => .err
end

def bindF (l : Loc) (r : Res Val) (f : Val → Mem → Flow) : Flow := match r with
  | .ok v m => f v m
  | .exc c fs m => .exc l c fs m
  | .err => .err
def Flow.seq (r : Flow) (f : Loc → Mem → Flow) : Flow := match r with
  | .nx l m => f l m
  | r => r

/-- the turns of a for -/
noncomputable def forLoop (chk : Option (Nat × List Val)) (t : Tg) (b : Loc → Mem → Flow) : List Val → Loc → Mem → Flow
  | [], l, m => if still chk m then .nx l m else .err
  | x :: xs, l, m => if still chk m then match assignT m t x l with
    | some l' => match b l' m with
      | .nx l2 m2 => forLoop chk t b xs l2 m2
      | .cnt l2 m2 => forLoop chk t b xs l2 m2
      | .brk l2 m2 => .nx l2 m2
      | r => r
    | none => .err
    else .err
/-- the turns of a while, at most n -/
def whileLoop (c : Loc → Mem → Res Val) (b : Loc → Mem → Flow) : Nat → Loc → Mem → Flow
  | 0, _, _ => .err
  | n + 1, l, m => bindF l (c l m) fun v m1 => match truth m1 v with
    | some true => match b l m1 with
      | .nx l2 m2 => whileLoop c b n l2 m2
      | .cnt l2 m2 => whileLoop c b n l2 m2
      | .brk l2 m2 => .nx l2 m2
      | r => r
    | some false => .nx l m1
    | none => .err
def WMAX : Nat := 100000000

mutual
noncomputable def execS (P : Prog) (C : Calls) : S → Loc → Mem → Flow
  | .pass, l, m => .nx l m
  | .expr e, l, m => bindF l (evalE P C e l m) fun _ m1 => .nx l m1
  | .set i e, l, m => bindF l (evalE P C e l m) fun v m1 => .nx (l.set i (some v)) m1
  | .asg t e, l, m => bindF l (evalE P C e l m) fun v m1 => match assignT m1 t v l with
    | some l' => .nx l' m1
    | none => .err
  | .aug i o e, l, m => match l[i]? with
    | some (some x) => bindF l (evalE P C e l m) fun y m1 => bindF l (augop o x y m1) fun v m2 => .nx (l.set i (some v)) m2
    | _ => .err
  | .setAttr o f e, l, m => bindF l (evalE P C e l m) fun v m1 => bindF l (evalE P C o l m1) fun x m2 => match x with
    | .ref k => match m2[k]? with
      | some (.inst c fs) => if fs.length < 1000 ∧ (P.flds c).contains f = true then .nx l (m2.set k (.inst c (putAttr f v fs))) else .err
      | _ => .err
    | _ => .err
  | .setIdx o i e, l, m => bindF l (evalE P C e l m) fun v m1 => bindF l (evalE P C o l m1) fun x m2 => bindF l (evalE P C i l m2) fun y m3 => match x, y with
    | .ref k, j => match m3[k]? with
      | some (.list xs) => match j with
        | .int i => match ixOf xs.length i with
          | some n => .nx l (m3.set k (.list (xs.set n v)))
          | none => .err
        | _ => .err
      | _ => .err
    | _, _ => .err
  | .del _ _, _, _ => .err
  | .ret none, _, m => .ret .none m
  | .ret (some e), l, m => bindF l (evalE P C e l m) fun v m1 => .ret v m1
  | .ifs c a b, l, m => bindF l (evalE P C c l m) fun v m1 => match truth m1 v with
    | some true => execB P C a l m1
    | some false => execB P C b l m1
    | none => .err
  | .whl c b, l, m => whileLoop (evalE P C c) (execB P C b) WMAX l m
  | .fr t it b, l, m => match evalI P C it l m with
    | .ok w m1 => forLoop w.2 t (execB P C b) w.1 l m1
    | .exc c fs m1 => .exc l c fs m1
    | .err => .err
  | .brk, l, m => .brk l m
  | .cnt, l, m => .cnt l m
  | .dead, _, _ => .err
noncomputable def execB (P : Prog) (C : Calls) : List S → Loc → Mem → Flow
  | [], l, m => .nx l m
  | s :: r, l, m => (execS P C s l m).seq (execB P C r)
end

def retOf (r : Flow) : Res Val := match r with
  | .nx _ m => .ok .none m
  | .ret v m => .ok v m
  | .exc _ c fs m => .exc c fs m
  | _ => .err
def start (ns : Nat) (vs : List Val) : Loc := vs.map some ++ List.replicate (ns - vs.length) none

/-- what a class's call gives -/
def mkG (n : Nat) (v : Val) (m : Mem) : Res Val := match v with
  | .none => .ok (.ref n) m
  | _ => .err
/-- a call, d calls deep -/
noncomputable def callN (P : Prog) : Nat → Calls
  | 0, _, _, _ => .err
  | d + 1, f, vs, m => match P.ent f with
    | some (.fn fd) => if vs.length = fd.np then gc m (retOf (execB P (callN P d) fd.body (start fd.ns vs) m)) else .err
    | some (.mth fd) => if vs.length = fd.np then gc m (retOf (execB P (callN P d) fd.body (start fd.ns vs) m)) else .err
    | some (.cls init) => gc m ((callN P d init (.ref m.length :: vs) (m ++ [.inst f []])).bind (mkG m.length))
    | none => .err
end Py

namespace Py
open PySem PySem.Spec PyProof.Rows L2

/-! ### what stands for what -/
def sv (s : List Nat) : PySem.Str := ⟨s.toArray⟩
theorem sv_list (s : List Nat) : (sv s).cps.toList = s := by simp [sv]
theorem sv_len (s : List Nat) : (sv s).length = s.length := by simp [sv, PySem.Str.length]
theorem sv_app (a b : List Nat) : sv a ++ sv b = sv (a ++ b) := by
  show PySem.Str.append _ _ = _
  simp [sv, PySem.Str.append]
theorem sv_of (x : PySem.Str) : sv x.cps.toList = x := by simp [sv]
theorem sv_inj {a b : List Nat} (h : sv a = sv b) : a = b := by
  have := congrArg (fun x : PySem.Str => x.cps.toList) h
  simpa [sv] using this

def okS (s : List Nat) : Bool := s.all fun c => decide (c < 1114112)
theorem okS_app {a b : List Nat} (ha : okS a = true) (hb : okS b = true) : okS (a ++ b) = true := by
  unfold okS at *
  rw [List.all_append, ha, hb]; rfl
theorem okS_mem {a b : List Nat} (ha : okS a = true) (h : ∀ c, c ∈ b → c ∈ a) : okS b = true := by
  unfold okS at *
  rw [List.all_eq_true] at *
  exact fun c hc => ha c (h c hc)

structure Wd where
  K : PySem.W.Frag
  cad : PySem.Str → Addr

/-- a list that stands still: the script -/
def SqF (K : PySem.W.Frag) (H : Hp) (a : Addr) (xs : List V) : Prop := (∃ o, H a = some (.frz o (.lst xs))) ∨ ((∀ H' : Hp, SqL K H' a xs) ∧ True)
theorem SqF.l {K : PySem.W.Frag} {H : Hp} {a : Addr} {xs : List V} (h : SqF K H a xs) : SqL K H a xs := h.elim (fun ⟨o, e⟩ => .inl (.inr ⟨o, e⟩)) fun z => z.1 H
/-- what stands still -/
inductive Stl : HO → Prop
  | tup (xs : List V) : Stl (.tup xs)
  | frz (o : Obj) (xs : List V) : Stl (.frz o (.lst xs))
mutual
inductive Rep (K : PySem.W.Frag) (ρ : Nat → Addr) (n : Nat) (H : Hp) : Val → V → Prop where
  | none : Rep K ρ n H .none .non
  | bool (b : Bool) : Rep K ρ n H (.bool b) (.bl b)
  | int (i : Int) : Rep K ρ n H (.int i) (.int i)
  | str (s : List Nat) (h : okS s = true) : Rep K ρ n H (.str s) (.str (sv s))
  | tup {xs : List Val} {a : Addr} {vs : List V} (h : H a = some (.tup vs) ∨ (SqT K H a vs ∧ keyTag xs = false)) (r : RepL K ρ n H xs vs) : Rep K ρ n H (.tup xs) (.ref a)
  | fro {xs : List Int} {a : Addr} (h : SqF K H a (xs.map V.int)) : Rep K ρ n H (.fro xs) (.ref a)
  | ref {k : Nat} (h : k < n) : Rep K ρ n H (.ref k) (.ref (ρ k))
inductive RepL (K : PySem.W.Frag) (ρ : Nat → Addr) (n : Nat) (H : Hp) : List Val → List V → Prop where
  | nil : RepL K ρ n H [] []
  | cons {x : Val} {u : V} {xs : List Val} {us : List V} (h : Rep K ρ n H x u) (t : RepL K ρ n H xs us) : RepL K ρ n H (x :: xs) (u :: us)
end

/-- a key of a dict -/
inductive KeyR : Val → Key → Prop where
  | int (i : Int) : KeyR (.int i) (.inl i)
  | str (s : List Nat) : KeyR (.str s) (.inr (sv s))
inductive KeyRs : List Val → List Key → Prop where
  | nil : KeyRs [] []
  | cons {x : Val} {k : Key} {xs : List Val} {ks : List Key} (h : KeyR x k) (t : KeyRs xs ks) : KeyRs (x :: xs) (k :: ks)
inductive FldR (K : PySem.W.Frag) (ρ : Nat → Addr) (n : Nat) (H : Hp) : List (PySem.Str × Val) → List (PySem.Str × V) → Prop where
  | nil : FldR K ρ n H [] []
  | cons {f : PySem.Str} {x : Val} {u : V} {xs us} (h : Rep K ρ n H x u) (t : FldR K ρ n H xs us) : FldR K ρ n H ((f, x) :: xs) ((f, u) :: us)
inductive EntK (K : PySem.W.Frag) (ρ : Nat → Addr) (n : Nat) (H : Hp) : List (Val × Val) → List (Key × V) → Prop where
  | nil : EntK K ρ n H [] []
  | cons {x y : Val} {k : Key} {u : V} {xs us} (hk : KeyR x k) (h : Rep K ρ n H y u) (t : EntK K ρ n H xs us) : EntK K ρ n H ((x, y) :: xs) ((k, u) :: us)
inductive EntT (K : PySem.W.Frag) (ρ : Nat → Addr) (n : Nat) (H : Hp) : List (Val × Val) → List (List Key × V) → Prop where
  | nil : EntT K ρ n H [] []
  | cons {x : List Val} {y : Val} {k : List Key} {u : V} {xs us} (hk : KeyRs x k) (h : Rep K ρ n H y u) (t : EntT K ρ n H xs us) : EntT K ρ n H ((.tup x, y) :: xs) ((k, u) :: us)
inductive RepO (W : Wd) (ρ : Nat → Addr) (n : Nat) (H : Hp) : Ob → HO → Prop where
  | list {xs us} (h : RepL W.K ρ n H xs us) : RepO W ρ n H (.list xs) (.lst us)
  | inst {c dx fs us} (h : FldR W.K ρ n H fs us) (hc : Cls W.K (W.cad c)) (hn : ∀ f u, us.lookup f = some u → NoAttr W.K (W.cad c) f) : RepO W ρ n H (.inst c fs) (.ins (W.cad c) dx us)
  | dK {kvs us} (h : EntK W.K ρ n H kvs us) : RepO W ρ n H (.dict false kvs) (.dK us)
  | dT {kvs us} (h : EntT W.K ρ n H kvs us) : RepO W ρ n H (.dict true kvs) (.dT us)

structure Ext (K : PySem.W.Frag) (ρ : Nat → Addr) (n : Nat) (H : Hp) (ρ' : Nat → Addr) (n' : Nat) (H' : Hp) : Prop where
  le : n ≤ n'
  agree : ∀ i, i < n → ρ' i = ρ i
  tups : ∀ a xs, SqT K H a xs → SqT K H' a xs
  tupt : ∀ a u, Stl u → H a = some u → H' a = some u
  frame : ∀ b o, H b = some o → (∀ i, i < n → ρ i ≠ b) → H' b = some o
  keep : ∀ b, H b ≠ none → H' b ≠ none
  fresh : ∀ i, n ≤ i → i < n' → H (ρ' i) = none
theorem Ext.refl {K : PySem.W.Frag} {ρ : Nat → Addr} {n : Nat} {H : Hp} : Ext K ρ n H ρ n H :=
  ⟨Nat.le_refl _, fun _ _ => rfl, fun _ _ h => h, fun _ _ _ h => h, fun _ _ h _ => h, fun _ h => h, fun i h1 h2 => absurd h2 (Nat.not_lt.mpr h1)⟩
theorem Ext.trans {K : PySem.W.Frag} {ρ ρ1 ρ2 : Nat → Addr} {n n1 n2 : Nat} {H H1 H2 : Hp} (a : Ext K ρ n H ρ1 n1 H1) (b : Ext K ρ1 n1 H1 ρ2 n2 H2) : Ext K ρ n H ρ2 n2 H2 where
  le := Nat.le_trans a.le b.le
  agree := fun i h => (b.agree i (Nat.lt_of_lt_of_le h a.le)).trans (a.agree i h)
  tups := fun x xs h => b.tups x xs (a.tups x xs h)
  tupt := fun x u k h => b.tupt x u k (a.tupt x u k h)
  frame := fun x o h hn => by
    refine b.frame x o (a.frame x o h hn) fun i hi => ?_
    by_cases q : i < n
    · rw [a.agree i q]; exact hn i q
    · intro e
      have := a.fresh i (Nat.le_of_not_lt q) hi
      rw [e, h] at this; cases this
  keep := fun x h => b.keep x (a.keep x h)
  fresh := fun i h1 h2 => by
    by_cases q : i < n1
    · rw [b.agree i q]; exact a.fresh i h1 q
    · have := b.fresh i (Nat.le_of_not_lt q) h2
      cases e : H (ρ2 i) with
      | none => rfl
      | some o => exact absurd this (a.keep _ (by rw [e]; simp))

/-- what a value's standing leans on -/
structure Tr (K : PySem.W.Frag) (ρ : Nat → Addr) (n : Nat) (H : Hp) (ρ' : Nat → Addr) (n' : Nat) (H' : Hp) : Prop where
  le : n ≤ n'
  agree : ∀ i, i < n → ρ' i = ρ i
  tups : ∀ a xs, SqT K H a xs → SqT K H' a xs
  tupt : ∀ a u, Stl u → H a = some u → H' a = some u
theorem Ext.tr {K : PySem.W.Frag} {ρ ρ' : Nat → Addr} {n n' : Nat} {H H' : Hp} (x : Ext K ρ n H ρ' n' H') : Tr K ρ n H ρ' n' H' := ⟨x.le, x.agree, x.tups, x.tupt⟩
section
variable {K : PySem.W.Frag} {ρ ρ' : Nat → Addr} {n n' : Nat} {H H' : Hp}
mutual
theorem Rep.tr (x : Tr K ρ n H ρ' n' H') : ∀ {v : Val} {u : V}, Rep K ρ n H v u → Rep K ρ' n' H' v u
  | _, _, .none => .none
  | _, _, .bool b => .bool b
  | _, _, .int i => .int i
  | _, _, .str s h => .str s h
  | _, _, .tup h r => .tup (h.imp (x.tupt _ _ (.tup _)) fun z => ⟨x.tups _ _ z.1, z.2⟩) (RepL.tr x r)
  | _, _, .fro h => .fro (h.imp (fun ⟨o, e⟩ => ⟨o, x.tupt _ _ (.frz _ _) e⟩) id)
  | _, _, .ref h => by rw [← x.agree _ h]; exact .ref (Nat.lt_of_lt_of_le h x.le)
theorem RepL.tr (x : Tr K ρ n H ρ' n' H') : ∀ {v : List Val} {u : List V}, RepL K ρ n H v u → RepL K ρ' n' H' v u
  | _, _, .nil => .nil
  | _, _, .cons h t => .cons (Rep.tr x h) (RepL.tr x t)
end
theorem FldR.tr (x : Tr K ρ n H ρ' n' H') {v u} (h : FldR K ρ n H v u) : FldR K ρ' n' H' v u := by
  induction h with
  | nil => exact .nil
  | cons h t ih => exact .cons (h.tr x) ih
theorem EntK.tr (x : Tr K ρ n H ρ' n' H') {v u} (h : EntK K ρ n H v u) : EntK K ρ' n' H' v u := by
  induction h with
  | nil => exact .nil
  | cons k h t ih => exact .cons k (h.tr x) ih
theorem EntT.tr (x : Tr K ρ n H ρ' n' H') {v u} (h : EntT K ρ n H v u) : EntT K ρ' n' H' v u := by
  induction h with
  | nil => exact .nil
  | cons k h t ih => exact .cons k (h.tr x) ih
theorem RepO.tr {W : Wd} (x : Tr W.K ρ n H ρ' n' H') {v u} (h : RepO W ρ n H v u) : RepO W ρ' n' H' v u := by
  cases h with
  | list h => exact .list (h.tr x)
  | inst h a b => exact .inst (h.tr x) a b
  | dK h => exact .dK (h.tr x)
  | dT h => exact .dT (h.tr x)
theorem Rep.ext (x : Ext K ρ n H ρ' n' H') {v u} (h : Rep K ρ n H v u) : Rep K ρ' n' H' v u := h.tr x.tr
theorem RepL.ext (x : Ext K ρ n H ρ' n' H') {v u} (h : RepL K ρ n H v u) : RepL K ρ' n' H' v u := h.tr x.tr
theorem FldR.ext (x : Ext K ρ n H ρ' n' H') {v u} (h : FldR K ρ n H v u) : FldR K ρ' n' H' v u := h.tr x.tr
theorem RepO.ext {W : Wd} (x : Ext W.K ρ n H ρ' n' H') {v u} (h : RepO W ρ n H v u) : RepO W ρ' n' H' v u := h.tr x.tr
theorem RepL.length : ∀ {v : List Val} {u : List V}, RepL K ρ n H v u → v.length = u.length
  | _, _, .nil => rfl
  | _, _, .cons _ t => congrArg Nat.succ (RepL.length t)
theorem RepL.get : ∀ {v : List Val} {u : List V} {i : Nat} {x : Val}, RepL K ρ n H v u → v[i]? = some x → ∃ y, u[i]? = some y ∧ Rep K ρ n H x y
  | _, _, _, _, .nil, h => by simp at h
  | _, _, 0, _, .cons h _, e => by simp at e; subst e; exact ⟨_, rfl, h⟩
  | _, _, i + 1, x, .cons _ t, e => by
    obtain ⟨y, h1, h2⟩ := RepL.get (i := i) t (by simpa using e)
    exact ⟨y, by simpa using h1, h2⟩
theorem RepL.append : ∀ {v w : List Val} {u z : List V}, RepL K ρ n H v u → RepL K ρ n H w z → RepL K ρ n H (v ++ w) (u ++ z)
  | _, _, _, _, .nil, s => s
  | _, _, _, _, .cons h t, s => .cons h (RepL.append t s)
theorem RepL.take : ∀ {v : List Val} {u : List V} (k : Nat), RepL K ρ n H v u → RepL K ρ n H (v.take k) (u.take k)
  | _, _, 0, _ => by simpa using .nil
  | _, _, _ + 1, .nil => by simpa using .nil
  | _, _, k + 1, .cons h t => .cons h (RepL.take k t)
theorem RepL.drop : ∀ {v : List Val} {u : List V} (k : Nat), RepL K ρ n H v u → RepL K ρ n H (v.drop k) (u.drop k)
  | _, _, 0, r => r
  | _, _, _ + 1, .nil => by simpa using .nil
  | _, _, k + 1, .cons _ t => RepL.drop k t
theorem RepL.rep {v : List Val} {u : List V} (h : RepL K ρ n H v u) : ∀ k : Nat, RepL K ρ n H (List.replicate k v).flatten (List.replicate k u).flatten
  | 0 => by simpa using .nil
  | k + 1 => by
    rw [List.replicate_succ, List.replicate_succ, List.flatten_cons, List.flatten_cons]
    exact h.append (RepL.rep h k)
theorem RepL.reverse : ∀ {v : List Val} {u : List V}, RepL K ρ n H v u → RepL K ρ n H v.reverse u.reverse
  | _, _, .nil => by simpa using .nil
  | _, _, .cons h t => by
    rw [List.reverse_cons, List.reverse_cons]
    exact (RepL.reverse t).append (.cons h .nil)
theorem RepL.dropLast {v : List Val} {u : List V} (h : RepL K ρ n H v u) : RepL K ρ n H v.dropLast u.dropLast := by
  rw [List.dropLast_eq_take, List.dropLast_eq_take, h.length]
  exact h.take _
theorem RepL.set : ∀ {v : List Val} {u : List V} {x : Val} {y : V} (k : Nat), RepL K ρ n H v u → Rep K ρ n H x y → RepL K ρ n H (v.set k x) (u.set k y)
  | _, _, _, _, _, .nil, _ => .nil
  | _, _, _, _, 0, .cons _ t, r => .cons r t
  | _, _, _, _, k + 1, .cons h t, r => .cons h (RepL.set k t r)
end

theorem sqT_of {K : PySem.W.Frag} {H : Hp} {a : Addr} {vs : List V} {b : Prop} (h : H a = some (.tup vs) ∨ (SqT K H a vs ∧ b)) : SqT K H a vs := h.elim SqT.of fun z => z.1
structure Sim (W : Wd) (ρ : Nat → Addr) (m : Mem) (H : Hp) : Prop where
  inj : ∀ i j, i < m.length → j < m.length → ρ i = ρ j → i = j
  obj : ∀ i o, m[i]? = some o → ∃ u, H (ρ i) = some u ∧ RepO W ρ m.length H o u

structure SimS (K : PySem.W.Frag) (ρ : Nat → Addr) (n : Nat) (H : Hp) (l : Loc) (σ : L2.St) : Prop where
  len : l.length = σ.length
  get : ∀ (i : Nat) (v : Val), l[i]? = some (some v) → ∃ u, σ[i]? = some (some u) ∧ Rep K ρ n H v u
theorem SimS.ext {K : PySem.W.Frag} {ρ ρ' : Nat → Addr} {n n' : Nat} {H H' : Hp} {l : Loc} {σ : L2.St} (s : SimS K ρ n H l σ) (x : Ext K ρ n H ρ' n' H') : SimS K ρ' n' H' l σ :=
  ⟨s.len, fun i v h => let ⟨u, a, b⟩ := s.get i v h; ⟨u, a, b.ext x⟩⟩
theorem SimS.tr {K : PySem.W.Frag} {ρ ρ' : Nat → Addr} {n n' : Nat} {H H' : Hp} {l : Loc} {σ : L2.St} (s : SimS K ρ n H l σ) (x : Tr K ρ n H ρ' n' H') : SimS K ρ' n' H' l σ :=
  ⟨s.len, fun i v h => let ⟨u, a, b⟩ := s.get i v h; ⟨u, a, b.tr x⟩⟩
theorem SimS.set {K : PySem.W.Frag} {ρ : Nat → Addr} {n : Nat} {H : Hp} {l : Loc} {σ : L2.St} (s : SimS K ρ n H l σ) {v : Val} {u : V} (r : Rep K ρ n H v u) (i : Nat) : SimS K ρ n H (l.set i (some v)) (σ.set i (some u)) := by
  refine ⟨by simp [s.len], fun j w h => ?_⟩
  by_cases e : i = j
  · subst e
    by_cases hl : i < l.length
    · rw [List.getElem?_set_self hl] at h
      cases h
      exact ⟨u, List.getElem?_set_self (by rw [← s.len]; exact hl), r⟩
    · rw [List.getElem?_eq_none (by simpa using hl)] at h; cases h
  · rw [List.getElem?_set_ne e] at h
    obtain ⟨y, a, b⟩ := s.get j w h
    exact ⟨y, by rw [List.getElem?_set_ne e]; exact a, b⟩

theorem RepL.ints {K : PySem.W.Frag} {ρ : Nat → Addr} {n : Nat} {H : Hp} : ∀ xs : List Int, RepL K ρ n H (xs.map Val.int) (xs.map V.int)
  | [] => .nil
  | x :: xs => .cons (.int x) (RepL.ints xs)
/-! a new cell -/
section
variable {W : Wd} {ρ : Nat → Addr} {m : Mem} {H : Hp}
theorem ext_new {K : PySem.W.Frag} {n : Nat} {p : Addr} {o : HO} (hp : H p = none) : Ext K ρ n H (fun i => if i = n then p else ρ i) (n + 1) (upd H p o) where
  le := Nat.le_succ _
  agree := fun i h => if_neg (Nat.ne_of_lt h)
  tups := fun a xs h => by
    rcases h with (h | ⟨ob, h⟩) | h
    · exact .inl (.inl (by rw [upd_ne (ne_of_none h hp)]; exact h))
    · exact .inl (.inr ⟨ob, by rw [upd_ne (ne_of_none h hp)]; exact h⟩)
    · exact .inr h
  tupt := fun a u k h => by rw [upd_ne (ne_of_none h hp)]; exact h
  frame := fun b o h _ => by rw [upd_ne (ne_of_none h hp)]; exact h
  keep := fun b h => by
    by_cases e : b = p
    · subst e; exact absurd hp h
    · rw [upd_ne e]; exact h
  fresh := fun i h1 h2 => by
    have e : i = n := by omega
    subst e
    show H (if i = i then p else ρ i) = none
    rw [if_pos rfl]; exact hp
/-- a tuple, or any other thing that the memory does not name, is laid -/
theorem ext_laid {K : PySem.W.Frag} {n : Nat} {p : Addr} {o : HO} (hp : H p = none) : Ext K ρ n H ρ n (upd H p o) where
  le := Nat.le_refl _
  agree := fun _ _ => rfl
  tups := (ext_new (K := K) (ρ := ρ) (n := n) (o := o) hp).tups
  tupt := (ext_new (K := K) (ρ := ρ) (n := n) (o := o) hp).tupt
  frame := fun b o h _ => by rw [upd_ne (ne_of_none h hp)]; exact h
  keep := (ext_new (K := K) (ρ := ρ) (n := n) (o := o) hp).keep
  fresh := fun i h1 h2 => absurd h2 (Nat.not_lt.mpr h1)
theorem Sim.laid {p : Addr} {o : HO} (s : Sim W ρ m H) (hp : H p = none) : Sim W ρ m (upd H p o) :=
  ⟨s.inj, fun i ob h => let ⟨u, a, b⟩ := s.obj i ob h; ⟨u, by rw [upd_ne (ne_of_none a hp)]; exact a, b.ext (ext_laid hp)⟩⟩
theorem Sim.new {p : Addr} {o : HO} {ob : Ob} (s : Sim W ρ m H) (hp : H p = none) (r : RepO W ρ m.length H ob o) : Sim W (fun i => if i = m.length then p else ρ i) (m ++ [ob]) (upd H p o) := by
  have x := ext_new (K := W.K) (ρ := ρ) (n := m.length) (o := o) hp
  refine ⟨fun i j hi hj e => ?_, fun i ob' h => ?_⟩
  · simp only [List.length_append, List.length_cons, List.length_nil] at hi hj
    have at_ : ∀ k, k < m.length → H (ρ k) ≠ none := fun k hk => by
      obtain ⟨u, a, _⟩ := s.obj k m[k] (by simp [hk])
      rw [a]; simp
    by_cases h1 : i = m.length
    · by_cases h2 : j = m.length
      · omega
      · exfalso
        have e' : p = ρ j := by simpa [h1, h2] using e
        exact at_ j (by omega) (by rw [← e']; exact hp)
    · by_cases h2 : j = m.length
      · exfalso
        have e' : ρ i = p := by simpa [h1, h2] using e
        exact at_ i (by omega) (by rw [e']; exact hp)
      · have e' : ρ i = ρ j := by simpa [h1, h2] using e
        exact s.inj i j (by omega) (by omega) e'
  · have hl : (m ++ [ob]).length = m.length + 1 := by simp
    rw [hl]
    by_cases h1 : i < m.length
    · rw [List.getElem?_append_left h1] at h
      obtain ⟨u, a, b⟩ := s.obj i ob' h
      refine ⟨u, ?_, b.ext x⟩
      have e1 : (if i = m.length then p else ρ i) = ρ i := if_neg (Nat.ne_of_lt h1)
      rw [e1, upd_ne (ne_of_none a hp)]; exact a
    · have h2 : i = m.length := by
        have := (List.getElem?_eq_some_iff.mp h).1
        simp at this; omega
      subst h2
      simp at h
      subst h
      exact ⟨o, by simp [upd_same], r.ext x⟩
/-- a cell is changed -/
theorem ext_put {k : Nat} {o o' : HO} (s : Sim W ρ m H) (hk : k < m.length) (ho : H (ρ k) = some o) : Ext W.K ρ m.length H ρ m.length (upd H (ρ k) o') where
  le := Nat.le_refl _
  agree := fun _ _ => rfl
  tups := fun a xs h => by
    obtain ⟨ob0, hob⟩ : ∃ ob, m[k]? = some ob := ⟨m[k], by simp [hk]⟩
    obtain ⟨u, hu, r⟩ := s.obj k ob0 hob
    rcases h with (h | ⟨ob, h⟩) | h
    · refine .inl (.inl ?_)
      rw [upd_ne (fun e => by rw [e, hu] at h; cases h; cases r)]; exact h
    · refine .inl (.inr ⟨ob, ?_⟩)
      rw [upd_ne (fun e => by rw [e, hu] at h; cases h; cases r)]; exact h
    · exact .inr h
  tupt := fun a w z h => by
    obtain ⟨ob0, hob⟩ : ∃ ob, m[k]? = some ob := ⟨m[k], by simp [hk]⟩
    obtain ⟨u, hu, r⟩ := s.obj k ob0 hob
    rw [upd_ne (fun e => by rw [e, hu] at h; cases h; cases r <;> cases z)]; exact h
  frame := fun b o h hn => by rw [upd_ne (fun e => hn k hk e.symm)]; exact h
  keep := fun b h => by
    by_cases e : b = ρ k
    · subst e; rw [upd_same]; simp
    · rw [upd_ne e]; exact h
  fresh := fun i h1 h2 => absurd h2 (Nat.not_lt.mpr h1)
theorem Sim.put {k : Nat} {o' : HO} {ob' : Ob} (s : Sim W ρ m H) (hk : k < m.length) (r : RepO W ρ m.length H ob' o') : Sim W ρ (m.set k ob') (upd H (ρ k) o') := by
  obtain ⟨u, hu, _⟩ := s.obj k m[k] (by simp [hk])
  have x := ext_put (o' := o') s hk hu
  refine ⟨fun i j hi hj e => s.inj i j (by simpa using hi) (by simpa using hj) e, fun i ob h => ?_⟩
  rw [List.length_set]
  by_cases e : k = i
  · subst e
    rw [List.getElem?_set_self hk] at h
    cases h
    exact ⟨o', upd_same, r.ext x⟩
  · rw [List.getElem?_set_ne e] at h
    obtain ⟨v, a, b⟩ := s.obj i ob h
    have hi : i < m.length := (List.getElem?_eq_some_iff.mp h).1
    exact ⟨v, by rw [upd_ne (fun q => e (s.inj k i hk hi q.symm))]; exact a, b.ext x⟩
theorem Sim.list {k : Nat} {xs : List Val} (s : Sim W ρ m H) (h : m.list k = some xs) : k < m.length ∧ m[k]? = some (.list xs) ∧ ∃ us, H (ρ k) = some (.lst us) ∧ RepL W.K ρ m.length H xs us := by
  unfold Mem.list at h
  cases e : m[k]? with
  | none => rw [e] at h; cases h
  | some o =>
    rw [e] at h
    cases o with
    | list ys =>
      cases h
      obtain ⟨u, a, r⟩ := s.obj k _ e
      cases r with
      | list r => exact ⟨(List.getElem?_eq_some_iff.mp e).1, rfl, _, a, r⟩
    | dict _ _ => cases h
    | inst _ _ => cases h
theorem Sim.seq {v : Val} {u : V} {xs : List Val} (s : Sim W ρ m H) (r : Rep W.K ρ m.length H v u) (h : m.seq v = some xs) : ∃ a us, u = .ref a ∧ (SqL W.K H a us ∨ SqT W.K H a us) ∧ RepL W.K ρ m.length H xs us := by
  cases r with
  | tup ht rl => cases h; exact ⟨_, _, rfl, .inr (sqT_of ht), rl⟩
  | fro hf => cases h; exact ⟨_, _, rfl, .inl hf.l, RepL.ints _⟩
  | ref hk =>
    obtain ⟨_, _, us, a, rl⟩ := s.list h
    exact ⟨_, us, rfl, .inl (SqL.of a), rl⟩
  | none => cases h
  | bool _ => cases h
  | int _ => cases h
  | str _ _ => cases h
end

/-! ### what is wanted behind a run -/
def RepX (W : Wd) (ρ : Nat → Addr) (n : Nat) (H : Hp) (c : PySem.Str) (fs : List (PySem.Str × Val)) (cls : Value) (d : Option Addr) : Prop :=
  cls = .ref (W.cad c) ∧ ∃ dx us, d = some dx ∧ H dx = some (.xd us) ∧ FldR W.K ρ n H fs us
def Post (W : Wd) (wx : WX) (σ : L2.St) (ρ : Nat → Addr) (n : Nat) (H : Hp) (r : Res Val) (Q : VK) : Prop := match r with
  | .ok v m => ∀ ρ' H' u, Ext W.K ρ n H ρ' m.length H' → Sim W ρ' m H' → Rep W.K ρ' m.length H' v u → Q u H'
  | .exc c fs m => ∀ ρ' H' cls d, Ext W.K ρ n H ρ' m.length H' → Sim W ρ' m H' → RepX W ρ' m.length H' c fs cls d → wx cls d σ H'
  | .err => False
def PostL (W : Wd) (wx : WX) (σ : L2.St) (ρ : Nat → Addr) (n : Nat) (H : Hp) (r : Res (List Val)) (Q : List V → Hp → Prop) : Prop := match r with
  | .ok v m => ∀ ρ' H' u, Ext W.K ρ n H ρ' m.length H' → Sim W ρ' m H' → RepL W.K ρ' m.length H' v u → Q u H'
  | .exc c fs m => ∀ ρ' H' cls d, Ext W.K ρ n H ρ' m.length H' → Sim W ρ' m H' → RepX W ρ' m.length H' c fs cls d → wx cls d σ H'
  | .err => False
def PostT (W : Wd) (wx : WX) (σ : L2.St) (ρ : Nat → Addr) (n : Nat) (H : Hp) (r : Res Val) (Q : Bool → Hp → Prop) : Prop := match r with
  | .ok v m => ∃ b, truth m v = some b ∧ ∀ ρ' H', Ext W.K ρ n H ρ' m.length H' → Sim W ρ' m H' → Q b H'
  | .exc c fs m => ∀ ρ' H' cls d, Ext W.K ρ n H ρ' m.length H' → Sim W ρ' m H' → RepX W ρ' m.length H' c fs cls d → wx cls d σ H'
  | .err => False
/-- the same, no exception -/
def PV (W : Wd) (ρ : Nat → Addr) (n : Nat) (H : Hp) (r : Res Val) (Q : VK) : Prop := match r with
  | .ok v m => ∀ ρ' H' u, Ext W.K ρ n H ρ' m.length H' → Sim W ρ' m H' → Rep W.K ρ' m.length H' v u → Q u H'
  | _ => False

section
variable {W : Wd} {wx : WX} {σ : L2.St} {ρ ρ1 : Nat → Addr} {n n1 : Nat} {H H1 : Hp}
theorem Post.mono {r : Res Val} {Q Q' : VK} (p : Post W wx σ ρ n H r Q) (h : ∀ u H', Q u H' → Q' u H') : Post W wx σ ρ n H r Q' := by
  cases r with
  | ok v m => exact fun ρ' H' u a b c => h _ _ (p ρ' H' u a b c)
  | exc c fs m => exact p
  | err => exact p
theorem PostL.mono {r : Res (List Val)} {Q Q' : List V → Hp → Prop} (p : PostL W wx σ ρ n H r Q) (h : ∀ u H', Q u H' → Q' u H') : PostL W wx σ ρ n H r Q' := by
  cases r with
  | ok v m => exact fun ρ' H' u a b c => h _ _ (p ρ' H' u a b c)
  | exc c fs m => exact p
  | err => exact p
theorem PostT.mono {r : Res Val} {Q Q' : Bool → Hp → Prop} (p : PostT W wx σ ρ n H r Q) (h : ∀ u H', Q u H' → Q' u H') : PostT W wx σ ρ n H r Q' := by
  cases r with
  | ok v m => exact let ⟨b, e, k⟩ := p; ⟨b, e, fun ρ' H' a c => h _ _ (k ρ' H' a c)⟩
  | exc c fs m => exact p
  | err => exact p
theorem Post.ext {r : Res Val} {Q : VK} (p : Post W wx σ ρ n H r Q) (x : Ext W.K ρ n H ρ1 n1 H1) : Post W wx σ ρ1 n1 H1 r Q := by
  cases r with
  | ok v m => exact fun ρ' H' u a b c => p ρ' H' u (x.trans a) b c
  | exc c fs m => exact fun ρ' H' u d a b c => p ρ' H' u d (x.trans a) b c
  | err => exact p
theorem PostL.ext {r : Res (List Val)} {Q : List V → Hp → Prop} (p : PostL W wx σ ρ n H r Q) (x : Ext W.K ρ n H ρ1 n1 H1) : PostL W wx σ ρ1 n1 H1 r Q := by
  cases r with
  | ok v m => exact fun ρ' H' u a b c => p ρ' H' u (x.trans a) b c
  | exc c fs m => exact fun ρ' H' u d a b c => p ρ' H' u d (x.trans a) b c
  | err => exact p
theorem PostT.ext {r : Res Val} {Q : Bool → Hp → Prop} (p : PostT W wx σ ρ n H r Q) (x : Ext W.K ρ n H ρ1 n1 H1) : PostT W wx σ ρ1 n1 H1 r Q := by
  cases r with
  | ok v m => exact let ⟨b, e, k⟩ := p; ⟨b, e, fun ρ' H' a c => k ρ' H' (x.trans a) c⟩
  | exc c fs m => exact fun ρ' H' u d a b c => p ρ' H' u d (x.trans a) b c
  | err => exact p

/-- behind a part that gave v: the state, and what is left -/
structure Aft (W : Wd) (σ : L2.St) (ρ : Nat → Addr) (n : Nat) (H : Hp) (l : Loc) (v : Val) (m1 : Mem) (ρ1 : Nat → Addr) (u : V) (H1 : Hp) : Prop where
  ext : Ext W.K ρ n H ρ1 m1.length H1
  ss : SimS W.K ρ1 m1.length H1 l σ
  sim : Sim W ρ1 m1 H1
  rep : Rep W.K ρ1 m1.length H1 v u
theorem Post.bind {l : Loc} {r : Res Val} {f : Val → Mem → Res Val} {Q : VK} (ss : SimS W.K ρ n H l σ) (p : Post W wx σ ρ n H (r.bind f) Q) :
    Post W wx σ ρ n H r fun u H1 => ∃ v m1 ρ1, Aft W σ ρ n H l v m1 ρ1 u H1 ∧ Post W wx σ ρ1 m1.length H1 (f v m1) Q := by
  cases r with
  | ok v m => exact fun ρ' H' u a b c => ⟨v, m, ρ', ⟨a, ss.ext a, b, c⟩, Post.ext p a⟩
  | exc c fs m => exact p
  | err => exact p
theorem Post.bindL {l : Loc} {r : Res Val} {f : Val → Mem → Res (List Val)} {Q : List V → Hp → Prop} (ss : SimS W.K ρ n H l σ) (p : PostL W wx σ ρ n H (r.bind f) Q) :
    Post W wx σ ρ n H r fun u H1 => ∃ v m1 ρ1, Aft W σ ρ n H l v m1 ρ1 u H1 ∧ PostL W wx σ ρ1 m1.length H1 (f v m1) Q := by
  cases r with
  | ok v m => exact fun ρ' H' u a b c => ⟨v, m, ρ', ⟨a, ss.ext a, b, c⟩, PostL.ext p a⟩
  | exc c fs m => exact p
  | err => exact p
theorem Post.bindT {l : Loc} {r : Res Val} {f : Val → Mem → Res Val} {Q : Bool → Hp → Prop} (ss : SimS W.K ρ n H l σ) (p : PostT W wx σ ρ n H (r.bind f) Q) :
    Post W wx σ ρ n H r fun u H1 => ∃ v m1 ρ1, Aft W σ ρ n H l v m1 ρ1 u H1 ∧ PostT W wx σ ρ1 m1.length H1 (f v m1) Q := by
  cases r with
  | ok v m => exact fun ρ' H' u a b c => ⟨v, m, ρ', ⟨a, ss.ext a, b, c⟩, PostT.ext p a⟩
  | exc c fs m => exact p
  | err => exact p
structure AftL (W : Wd) (σ : L2.St) (ρ : Nat → Addr) (n : Nat) (H : Hp) (l : Loc) (v : List Val) (m1 : Mem) (ρ1 : Nat → Addr) (u : List V) (H1 : Hp) : Prop where
  ext : Ext W.K ρ n H ρ1 m1.length H1
  ss : SimS W.K ρ1 m1.length H1 l σ
  sim : Sim W ρ1 m1 H1
  rep : RepL W.K ρ1 m1.length H1 v u
theorem PostL.bind {l : Loc} {r : Res (List Val)} {f : List Val → Mem → Res Val} {Q : VK} (ss : SimS W.K ρ n H l σ) (p : Post W wx σ ρ n H (r.bind f) Q) :
    PostL W wx σ ρ n H r fun u H1 => ∃ v m1 ρ1, AftL W σ ρ n H l v m1 ρ1 u H1 ∧ Post W wx σ ρ1 m1.length H1 (f v m1) Q := by
  cases r with
  | ok v m => exact fun ρ' H' u a b c => ⟨v, m, ρ', ⟨a, ss.ext a, b, c⟩, Post.ext p a⟩
  | exc c fs m => exact p
  | err => exact p
theorem PostL.bindL {l : Loc} {r : Res (List Val)} {f : List Val → Mem → Res (List Val)} {Q : List V → Hp → Prop} (ss : SimS W.K ρ n H l σ) (p : PostL W wx σ ρ n H (r.bind f) Q) :
    PostL W wx σ ρ n H r fun u H1 => ∃ v m1 ρ1, AftL W σ ρ n H l v m1 ρ1 u H1 ∧ PostL W wx σ ρ1 m1.length H1 (f v m1) Q := by
  cases r with
  | ok v m => exact fun ρ' H' u a b c => ⟨v, m, ρ', ⟨a, ss.ext a, b, c⟩, PostL.ext p a⟩
  | exc c fs m => exact p
  | err => exact p
theorem Post.pv {v : Val} {m : Mem} {Q : VK} (p : PV W ρ n H (.ok v m) Q) : Post W wx σ ρ n H (.ok v m) Q := p
end

/-! ### expressions, tests, lists of expressions -/
structure SE (X : Cx) (W : Wd) (wx : WX) (e : Expr) (f : Loc → Mem → Res Val) : Prop where
  ex : ∃ t : TE, PE X e t ∧ ∀ (σ : L2.St) (H : Hp) (ρ : Nat → Addr) (l : Loc) (m : Mem) (Q : VK), SimS W.K ρ m.length H l σ → Sim W ρ m H → Post W wx σ ρ m.length H (f l m) Q → t σ H Q
structure ST (X : Cx) (W : Wd) (wx : WX) (e : Expr) (f : Loc → Mem → Res Val) : Prop where
  ex : ∃ t : TT, PT X e t ∧ ∀ (σ : L2.St) (H : Hp) (ρ : Nat → Addr) (l : Loc) (m : Mem) (Q : Bool → Hp → Prop), SimS W.K ρ m.length H l σ → Sim W ρ m H → PostT W wx σ ρ m.length H (f l m) Q → t σ H Q
structure SA (X : Cx) (W : Wd) (wx : WX) (es : List Expr) (f : Loc → Mem → Res (List Val)) : Prop where
  ex : ∃ t : TA, PA X es t ∧ ∀ (σ : L2.St) (H : Hp) (ρ : Nat → Addr) (l : Loc) (m : Mem) (Q : List V → Hp → Prop), SimS W.K ρ m.length H l σ → Sim W ρ m H → PostL W wx σ ρ m.length H (f l m) Q → t σ H Q

end Py

namespace Py
open PySem PySem.Spec PyProof.Rows L2

def opOf : BOp → Operator
  | .add => .Add | .sub => .Sub | .mul => .Mult | .fdiv => .FloorDiv | .mod => .Mod | .pow => .Pow
def copOf : COp → CmpOp
  | .eq => .Eq | .ne => .NotEq | .lt => .Lt | .le => .LtE | .gt => .Gt | .ge => .GtE | .isn => .Is | .notn => .IsNot | .mem => .In | .nmem => .NotIn

theorem sz_line : SZ = sizeLine := by rw [sizeLine_eq]; rfl

section
variable {X : Cx} {W : Wd} {ρ : Nat → Addr} {m : Mem} {H : Hp}
theorem Sim.one {Q : VK} {v : Val} {u : V} (s : Sim W ρ m H) (p : PV W ρ m.length H (.ok v m) Q) (r : Rep W.K ρ m.length H v u) : Q u H := p ρ H u Ext.refl s r
/-- a new list is laid -/
theorem Sim.lst {Q : VK} {xs : List Val} {us : List V} (s : Sim W ρ m H) (p : PV W ρ m.length H (.ok (.ref m.length) (m ++ [.list xs])) Q) (r : RepL W.K ρ m.length H xs us) : ∀ a, H a = none → Q (.ref a) (upd H a (.lst us)) := fun a ha => by
  have hl : (m ++ [Ob.list xs]).length = m.length + 1 := by simp
  refine p (fun i => if i = m.length then a else ρ i) _ _ (by rw [hl]; exact ext_new ha) (s.new ha (.list r)) ?_
  have h := Rep.ref (K := W.K) (ρ := fun i => if i = m.length then a else ρ i) (n := (m ++ [Ob.list xs]).length) (H := upd H a (.lst us)) (k := m.length) (by rw [hl]; exact Nat.lt_succ_self _)
  simp only [if_true] at h
  exact h
/-- a new tuple is laid -/
theorem Sim.tupn {Q : VK} {xs : List Val} {us : List V} (s : Sim W ρ m H) (p : PV W ρ m.length H (.ok (.tup xs) m) Q) (r : RepL W.K ρ m.length H xs us) : ∀ a, H a = none → Q (.ref a) (upd H a (.tup us)) := fun a ha =>
  p ρ _ _ (ext_laid ha) (s.laid ha) (.tup (.inl upd_same) (r.ext (ext_laid ha)))
/-- a cell is changed, a value comes -/
theorem Sim.putv {Q : VK} {k : Nat} {o' : HO} {ob' : Ob} {v : Val} {u : V} (s : Sim W ρ m H) (hk : k < m.length) (p : PV W ρ m.length H (.ok v (m.set k ob')) Q) (r : RepO W ρ m.length H ob' o') (rv : Rep W.K ρ m.length H v u) : Q u (upd H (ρ k) o') := by
  obtain ⟨ob, hob⟩ : ∃ ob, m[k]? = some ob := ⟨m[k], by simp [hk]⟩
  obtain ⟨w, hw, _⟩ := s.obj k ob hob
  have x := ext_put (o' := o') s hk hw
  have hl : (m.set k ob').length = m.length := by simp
  exact p ρ _ u (by rw [hl]; exact x) (s.put hk r) (by rw [hl]; exact rv.ext x)

/-! ### a + b and its like -/
def rBin (W : Wd) (o : BOp) : R2 := fun u w H Q => ∃ ρ m x y, Sim W ρ m H ∧ Rep W.K ρ m.length H x u ∧ Rep W.K ρ m.length H y w ∧ PV W ρ m.length H (binop o x y m) Q
theorem binI {f : Value → Value → Sem Value} {r : R2} {W : Wd} {o : BOp} (h : OpR X f r) (k : ∀ u w H Q, rBin W o u w H Q → r u w H Q) : OpR X f (rBin W o) := fun pins s σ H x y v u Q I rx ry q => h pins s σ H x y v u Q I rx ry (k _ _ _ _ q)
theorem big64_eq : big64 = 2 ^ 64 := by decide
theorem op_bin (hW : W.K = X.K) (o : BOp) : OpR X (binaryOp (opOf o)) (rBin W o) := by
  cases o with
  | add =>
    refine binI (o := .add) (op_add.or (op_add_ib.or (op_add_str.or (op_catA.or op_cat)))) fun u w H Q h => ?_
    obtain ⟨ρ, m, x, y, s, rx, ry, p⟩ := h
    cases rx with
    | int i =>
      cases ry with
      | int j => exact .inl ⟨i, j, rfl, rfl, s.one p (.int _)⟩
      | bool b => exact .inr (.inl ⟨i, b, rfl, rfl, by have := s.one p (.int _); simpa [b2i, PyProof.Rows.b2i] using this⟩)
      | _ => exact (show False from p).elim
    | str a ha =>
      cases ry with
      | str b hb =>
        simp only [binop] at p
        split at p
        · rename_i h
          refine .inr (.inr (.inl ⟨_, _, rfl, rfl, by rw [sv_len, sv_len, ← sz_line]; exact h, ?_⟩))
          rw [sv_app]; exact s.one p (.str _ (okS_app ha hb))
        · exact (show False from p).elim
      | _ => exact (show False from p).elim
    | @tup xs a vs ha ra =>
      cases ry with
      | @tup ys b ws hb rb =>
        simp only [binop] at p
        split at p
        · rename_i h
          have ha' := sqT_of ha
          have hb' := sqT_of hb
          rw [hW] at ha' hb'
          refine .inr (.inr (.inr (.inl ⟨a, b, vs, ws, rfl, rfl, ha', hb', by rw [← ra.length, ← rb.length, ← sz_line]; exact h, fun e => ?_, fun _ e => ?_, fun _ _ => s.tupn p (ra.append rb)⟩)))
          · subst e
            cases ra
            exact s.one p (.tup hb rb)
          · subst e
            cases rb
            rw [List.append_nil] at p
            exact s.one p (.tup ha ra)
        · exact (show False from p).elim
      | _ => exact (show False from p).elim
    | @ref k hk =>
      cases ry with
      | @ref j hj =>
        simp only [binop] at p
        split at p
        · rename_i xs ys e1 e2
          split at p
          · rename_i h
            obtain ⟨_, _, us, h1, r1⟩ := s.list e1
            obtain ⟨_, _, ws, h2, r2⟩ := s.list e2
            exact .inr (.inr (.inr (.inr ⟨_, _, us, ws, rfl, rfl, h1, h2, by rw [← r1.length, ← r2.length, ← sz_line]; exact h, s.lst p (r1.append r2)⟩)))
          · exact (show False from p).elim
        · exact (show False from p).elim
      | _ => exact (show False from p).elim
    | _ => cases ry <;> exact (show False from p).elim
  | sub =>
    refine binI (o := .sub) op_sub fun u w H Q h => ?_
    obtain ⟨ρ, m, x, y, s, rx, ry, p⟩ := h
    cases rx with
    | int i =>
      cases ry with
      | int j => exact ⟨i, j, rfl, rfl, s.one p (.int _)⟩
      | _ => exact (show False from p).elim
    | _ => cases ry <;> exact (show False from p).elim
  | mul =>
    refine binI (o := .mul) (op_mul.or op_rep) fun u w H Q h => ?_
    obtain ⟨ρ, m, x, y, s, rx, ry, p⟩ := h
    cases rx with
    | int i =>
      cases ry with
      | int j =>
        simp only [binop] at p
        split at p
        · rename_i h
          exact .inl ⟨i, j, rfl, rfl, by unfold mulOk at h; rw [big64_eq] at h; exact h, s.one p (.int _)⟩
        · exact (show False from p).elim
      | _ => exact (show False from p).elim
    | @ref k hk =>
      cases ry with
      | int j =>
        simp only [binop] at p
        split at p
        · rename_i xs e1
          split at p
          · rename_i h
            obtain ⟨_, _, us, h1, r1⟩ := s.list e1
            refine .inr ⟨_, j, us, rfl, rfl, h1, ?_, ?_, by rw [← r1.length, ← sz_line]; exact h.2, s.lst p (r1.rep _)⟩
            · have := h.1.1; omega
            · have := h.1.2; omega
          · exact (show False from p).elim
        · exact (show False from p).elim
      | _ => exact (show False from p).elim
    | _ => cases ry <;> exact (show False from p).elim
  | fdiv =>
    refine binI (o := .fdiv) op_fdivN fun u w H Q h => ?_
    obtain ⟨ρ, m, x, y, s, rx, ry, p⟩ := h
    cases rx with
    | int i =>
      cases ry with
      | int j =>
        simp only [binop] at p
        split at p
        · rename_i h
          exact ⟨i, j, rfl, rfl, h, s.one p (.int _)⟩
        · exact (show False from p).elim
      | _ => exact (show False from p).elim
    | _ => cases ry <;> exact (show False from p).elim
  | mod =>
    refine binI (o := .mod) op_mod fun u w H Q h => ?_
    obtain ⟨ρ, m, x, y, s, rx, ry, p⟩ := h
    cases rx with
    | int i =>
      cases ry with
      | int j =>
        simp only [binop] at p
        split at p
        · rename_i h
          exact ⟨i, j, rfl, rfl, h, s.one p (.int _)⟩
        · exact (show False from p).elim
      | _ => exact (show False from p).elim
    | _ => cases ry <;> exact (show False from p).elim
  | pow =>
    refine binI (o := .pow) op_pow fun u w H Q h => ?_
    obtain ⟨ρ, m, x, y, s, rx, ry, p⟩ := h
    cases rx with
    | int i =>
      cases ry with
      | int j =>
        simp only [binop] at p
        split at p
        · rename_i h
          exact ⟨i, j, rfl, rfl, ⟨h.1, h.2.1, h.2.2⟩, s.one p (.int _)⟩
        · exact (show False from p).elim
      | _ => exact (show False from p).elim
    | _ => cases ry <;> exact (show False from p).elim

/-! ### data that is compared -/
mutual
def toD : Val → PyData
  | .none => .none
  | .bool b => .bool b
  | .int i => .int i
  | .str s => .str (sv s)
  | .tup xs => .tuple (toDs xs)
  | .fro _ => .none
  | .ref _ => .none
def toDs : List Val → List PyData
  | [] => []
  | x :: xs => toD x :: toDs xs
end
mutual
theorem dp_of {K : PySem.W.Frag} {ρ : Nat → Addr} {n : Nat} {H : Hp} : ∀ {v : Val} {u : V}, Rep K ρ n H v u → v.pl = true → Dp K H u (toD v)
  | _, _, .none, _ => by unfold toD; exact .non
  | _, _, .bool b, _ => by unfold toD; exact .bl b
  | _, _, .int i, _ => by unfold toD; exact .int i
  | _, _, .str s _, _ => by unfold toD; exact .str _
  | _, _, .tup h r, e => by unfold toD; exact .tup (sqT_of h) (dps_of r (by unfold Val.pl at e; exact e))
  | _, _, .fro h, e => by simp [Val.pl] at e
  | _, _, .ref h, e => by simp [Val.pl] at e
theorem dps_of {K : PySem.W.Frag} {ρ : Nat → Addr} {n : Nat} {H : Hp} : ∀ {v : List Val} {u : List V}, RepL K ρ n H v u → Val.plL v = true → DpAll K H u (toDs v)
  | _, _, .nil, _ => by unfold toDs; exact .nil
  | _, _, .cons h t, e => by
    unfold Val.plL at e
    rw [Bool.and_eq_true] at e
    unfold toDs
    exact .cons (dp_of h e.1) (dps_of t e.2)
end
theorem strOk_of {s : List Nat} (h : okS s = true) : PyData.strOk (sv s) = true := by
  unfold PyData.strOk sv
  unfold okS at h
  rw [List.all_eq_true] at h
  simp only [List.all_toArray, List.all_eq_true]
  exact h
mutual
theorem lay_of {K : PySem.W.Frag} {ρ : Nat → Addr} {n : Nat} {H : Hp} : ∀ {v : Val} {u : V}, Rep K ρ n H v u → (toD v).canLay0 = true
  | _, _, .none => by unfold toD; simp [PyData.canLay0]
  | _, _, .bool b => by unfold toD; simp [PyData.canLay0]
  | _, _, .int i => by unfold toD; simp [PyData.canLay0]
  | _, _, .str s h => by unfold toD; simp [PyData.canLay0, strOk_of h]
  | _, _, .tup _ r => by unfold toD; simp [PyData.canLay0, lays_of r]
  | _, _, .fro _ => by unfold toD; simp [PyData.canLay0]
  | _, _, .ref _ => by unfold toD; simp [PyData.canLay0]
theorem lays_of {K : PySem.W.Frag} {ρ : Nat → Addr} {n : Nat} {H : Hp} : ∀ {v : List Val} {u : List V}, RepL K ρ n H v u → PyData.canLayAll0 (toDs v) = true
  | _, _, .nil => by unfold toDs; simp [PyData.canLayAll0]
  | _, _, .cons h t => by unfold toDs; simp [PyData.canLayAll0, lay_of h, lays_of t]
end
mutual
theorem depth_of : ∀ v : Val, (toD v).depth = v.depth
  | .none => by unfold toD Val.depth; simp [PyData.depth]
  | .bool b => by unfold toD Val.depth; simp [PyData.depth]
  | .int i => by unfold toD Val.depth; simp [PyData.depth]
  | .str s => by unfold toD Val.depth; simp [PyData.depth]
  | .tup xs => by unfold toD Val.depth; simp [PyData.depth, depths_of xs]
  | .fro _ => by unfold toD Val.depth; simp [PyData.depth]
  | .ref _ => by unfold toD Val.depth; simp [PyData.depth]
theorem depths_of : ∀ v : List Val, PyData.depthAll (toDs v) = Val.depthL v
  | [] => by unfold toDs Val.depthL; simp [PyData.depthAll]
  | x :: xs => by unfold toDs Val.depthL; simp [PyData.depthAll, depth_of x, depths_of xs]
end
theorem sv_beq (a b : List Nat) : (sv a == sv b) = (a == b) := by
  rw [Bool.eq_iff_iff, beq_iff_eq, beq_iff_eq]
  exact ⟨sv_inj, fun e => by rw [e]⟩
mutual
theorem eqv_of : ∀ (v w : Val), v.pl = true → w.pl = true → PyData.eqv (toD v) (toD w) = v.eqv w
  | .none, w, _, hw => by cases w <;> simp_all [toD, PyData.eqv, Val.eqv, Val.pl]
  | .bool b, w, _, hw => by cases w <;> simp_all [toD, PyData.eqv, Val.eqv, Val.pl]
  | .int i, w, _, hw => by cases w <;> simp_all [toD, PyData.eqv, Val.eqv, Val.pl]
  | .str s, w, _, hw => by cases w <;> simp_all [toD, PyData.eqv, Val.eqv, Val.pl, sv_beq]
  | .tup xs, w, hv, hw => by
    cases w with
    | tup ys =>
      simp only [Val.pl] at hv hw
      simp only [toD, PyData.eqv, Val.eqv]
      exact eqvs_of xs ys hv hw
    | _ => simp_all [toD, PyData.eqv, Val.eqv, Val.pl]
  | .ref _, w, hv, _ => by simp [Val.pl] at hv
theorem eqvs_of : ∀ (v w : List Val), Val.plL v = true → Val.plL w = true → PyData.eqvAll (toDs v) (toDs w) = Val.eqvL v w
  | [], [], _, _ => by simp [toDs, PyData.eqvAll, Val.eqvL]
  | [], y :: ys, _, _ => by simp [toDs, PyData.eqvAll, Val.eqvL]
  | x :: xs, [], _, _ => by simp [toDs, PyData.eqvAll, Val.eqvL]
  | x :: xs, y :: ys, hv, hw => by
    simp only [Val.plL, Bool.and_eq_true] at hv hw
    simp only [toDs, PyData.eqvAll, Val.eqvL]
    rw [eqv_of x y hv.1 hw.1, eqvs_of xs ys hv.2 hw.2]
end
theorem shaped_of {K : PySem.W.Frag} {ρ : Nat → Addr} {n : Nat} {H : Hp} {v : Val} {u : V} (r : Rep K ρ n H v u) (h : v.depth ≤ 60) : SeqAt.shaped (toD v) = true := by
  unfold SeqAt.shaped
  rw [lay_of r, depth_of, Bool.true_and]
  exact decide_eq_true (by omega)
theorem shapeds_of {K : PySem.W.Frag} {ρ : Nat → Addr} {n : Nat} {H : Hp} {v : List Val} {u : List V} (r : RepL K ρ n H v u) (h : Val.depthL v ≤ 59) : SeqAt.shaped (.list (toDs v)) = true ∧ SeqAt.shaped (.tuple (toDs v)) = true := by
  unfold SeqAt.shaped
  constructor
  · simp only [PyData.canLay0, PyData.depth, lays_of r, depths_of, Bool.true_and]
    exact decide_eq_true (by omega)
  · simp only [PyData.canLay0, PyData.depth, lays_of r, depths_of, Bool.true_and]
    exact decide_eq_true (by omega)

theorem eq_data {ρ : Nat → Addr} {m : Mem} {H : Hp} {x y : Val} {u w : V} {b : Bool} (s : Sim W ρ m H) (rx : Rep W.K ρ m.length H x u) (ry : Rep W.K ρ m.length H y w) (e : eqop m x y = some b) :
    ∃ d f, Dp W.K H u d ∧ Dp W.K H w f ∧ SeqAt.shaped d = true ∧ SeqAt.shaped f = true ∧ PyData.eqv d f = b := by
  have plain : ∀ {x y : Val} {u w : V}, Rep W.K ρ m.length H x u → Rep W.K ρ m.length H y w → (if x.dat && y.dat then some (x.eqv y) else none) = some b →
      ∃ d f, Dp W.K H u d ∧ Dp W.K H w f ∧ SeqAt.shaped d = true ∧ SeqAt.shaped f = true ∧ PyData.eqv d f = b := fun {x y u w} rx ry e => by
    split at e
    · rename_i h
      rw [Bool.and_eq_true] at h
      obtain ⟨h1, h2⟩ := h
      unfold Val.dat at h1 h2
      rw [Bool.and_eq_true] at h1 h2
      refine ⟨_, _, dp_of rx h1.1, dp_of ry h2.1, shaped_of rx (of_decide_eq_true h1.2), shaped_of ry (of_decide_eq_true h2.2), ?_⟩
      rw [eqv_of _ _ h1.1 h2.1]
      exact Option.some.inj e
    · cases e
  cases x with
  | ref a =>
    cases y with
    | ref c =>
      simp only [eqop] at e
      split at e
      · rename_i xs ys e1 e2
        split at e
        · rename_i h
          rw [Bool.and_eq_true] at h
          obtain ⟨h1, h2⟩ := h
          unfold datL at h1 h2
          rw [Bool.and_eq_true] at h1 h2
          obtain ⟨_, _, us, q1, r1⟩ := s.list e1
          obtain ⟨_, _, ws, q2, r2⟩ := s.list e2
          cases rx
          cases ry
          refine ⟨.list (toDs xs), .list (toDs ys), .lst (SqL.of q1) (dps_of r1 h1.1), .lst (SqL.of q2) (dps_of r2 h2.1), (shapeds_of r1 (of_decide_eq_true h1.2)).1, (shapeds_of r2 (of_decide_eq_true h2.2)).1, ?_⟩
          simp only [PyData.eqv]
          rw [eqvs_of _ _ h1.1 h2.1]
          exact Option.some.inj e
        · cases e
      · cases e
    | _ => exact plain rx ry e
  | _ => cases y <;> exact plain rx ry e

theorem any_data {x : Val} (hx : x.pl = true) : ∀ xs : List Val, Val.plL xs = true → ((toDs xs).any fun z => PyData.eqv z (toD x)) = xs.any fun z => z.eqv x
  | [], _ => by simp [toDs]
  | y :: ys, h => by
    simp only [Val.plL, Bool.and_eq_true] at h
    simp only [toDs, List.any_cons]
    rw [eqv_of y x h.1 hx, any_data hx ys h.2]

/-- x in t, t a tuple -/
theorem in_tup_D (hu : X.A.units + 65 < cLine) : OpR X (compareOp .In) (fun x y H Q => ∃ d ds, Dp X.K H x d ∧ Dp X.K H y (.tuple ds) ∧ SeqAt.shaped d = true ∧ SeqAt.shaped (.tuple ds) = true ∧ Q (.bl (ds.any fun z => PyData.eqv z d)) H) := by
  intro pins s σ H x y v u Q I rx ry h
  obtain ⟨d, ds, hd, he, sd, se, q⟩ := h
  obtain ⟨as, r1⟩ := Dp.reads I d x v hd rx
  obtain ⟨bs, r2⟩ := Dp.reads I (.tuple ds) y u he ry
  exact SeqAt.in_tuple_reads r2 r1 (SeqAt.canLay_of_shaped se) (SeqAt.canLay_of_shaped sd) (room_in_shaped sd hu) ⟨.bl _, H, I, rfl, q⟩
theorem notIn_tup_D (hu : X.A.units + 65 < cLine) : OpR X (compareOp .NotIn) (fun x y H Q => ∃ d ds, Dp X.K H x d ∧ Dp X.K H y (.tuple ds) ∧ SeqAt.shaped d = true ∧ SeqAt.shaped (.tuple ds) = true ∧ Q (.bl (!ds.any fun z => PyData.eqv z d)) H) := by
  intro pins s σ H x y v u Q I rx ry h
  obtain ⟨d, ds, hd, he, sd, se, q⟩ := h
  obtain ⟨as, r1⟩ := Dp.reads I d x v hd rx
  obtain ⟨bs, r2⟩ := Dp.reads I (.tuple ds) y u he ry
  exact SeqAt.notIn_tuple_reads r2 r1 (SeqAt.canLay_of_shaped se) (SeqAt.canLay_of_shaped sd) (room_in_shaped sd hu) ⟨.bl _, H, I, rfl, q⟩
end
end Py

namespace Py
open PySem PySem.Spec PyProof.Rows L2

section
variable {X : Cx} {W : Wd}
def rCmp (W : Wd) (o : COp) : R2 := fun u w H Q => ∃ ρ m x y b, Sim W ρ m H ∧ Rep W.K ρ m.length H x u ∧ Rep W.K ρ m.length H y w ∧ cmpop o x y m = some b ∧ Q (.bl b) H
theorem cmpI {f : Value → Value → Sem Value} {r : R2} {o : COp} (h : OpR X f r) (k : ∀ u w H Q, rCmp W o u w H Q → r u w H Q) : OpR X f (rCmp W o) := fun pins s σ H x y v u Q I rx ry q => h pins s σ H x y v u Q I rx ry (k _ _ _ _ q)

theorem isNone_of {K : PySem.W.Frag} {ρ : Nat → Addr} {n : Nat} {H : Hp} {x : Val} {u : V} (r : Rep K ρ n H x u) : decide (u = .non) = x.isNone := by
  cases r <;> simp [Val.isNone]
theorem none_of {K : PySem.W.Frag} {ρ : Nat → Addr} {n : Nat} {H : Hp} {u : V} (r : Rep K ρ n H .none u) : u = .non := by cases r; rfl

theorem seq_dat {ρ : Nat → Addr} {m : Mem} {H : Hp} {x y : Val} {u w : V} {b : Bool} (s : Sim W ρ m H) (rx : Rep W.K ρ m.length H x u) (ry : Rep W.K ρ m.length H y w) (e : memop m x y = some b) :
    (∃ c z, u = .str ⟨#[c]⟩ ∧ w = .str z ∧ b = decide (c ∈ z.cps.toList)) ∨
    (∃ d ds, Dp W.K H u d ∧ Dp W.K H w (.list ds) ∧ SeqAt.shaped d = true ∧ SeqAt.shaped (.list ds) = true ∧ (ds.any fun z => PyData.eqv z d) = b) ∨
    (∃ d ds, Dp W.K H u d ∧ Dp W.K H w (.tuple ds) ∧ SeqAt.shaped d = true ∧ SeqAt.shaped (.tuple ds) = true ∧ (ds.any fun z => PyData.eqv z d) = b) := by
  cases ry with
  | fro _ => cases e
  | str z hz =>
    unfold memop at e
    cases rx with
    | str a ha =>
      match a, ha, e with
      | [c], ha, e =>
        simp only at e
        split at e
        · refine .inl ⟨c, sv z, rfl, rfl, ?_⟩
          rw [sv_list]
          exact (Option.some.inj e).symm
        · cases e
      | [], _, e => simp at e
      | _ :: _ :: _, _, e => simp at e
    | _ => simp at e
  | tup hy ry =>
    unfold memop at e
    simp only at e
    split at e
    · rename_i h
      rw [Bool.and_eq_true] at h
      obtain ⟨h1, h2⟩ := h
      unfold Val.dat at h1
      unfold datL at h2
      rw [Bool.and_eq_true] at h1 h2
      refine .inr (.inr ⟨_, toDs _, dp_of rx h1.1, .tup (sqT_of hy) (dps_of ry h2.1), shaped_of rx (of_decide_eq_true h1.2), (shapeds_of ry (of_decide_eq_true h2.2)).2, ?_⟩)
      rw [any_data h1.1 _ h2.1]
      exact Option.some.inj e
    · cases e
  | @ref k hk =>
    unfold memop at e
    simp only at e
    split at e
    · rename_i xs ek
      split at e
      · rename_i h
        rw [Bool.and_eq_true] at h
        obtain ⟨h1, h2⟩ := h
        unfold Val.dat at h1
        unfold datL at h2
        rw [Bool.and_eq_true] at h1 h2
        obtain ⟨us, q, r⟩ := s.obj k _ ek
        cases r with
        | list r =>
          refine .inr (.inl ⟨_, toDs _, dp_of rx h1.1, .lst (SqL.of q) (dps_of r h2.1), shaped_of rx (of_decide_eq_true h1.2), (shapeds_of r (of_decide_eq_true h2.2)).1, ?_⟩)
          rw [any_data h1.1 _ h2.1]
          exact Option.some.inj e
      · cases e
    · cases e
  | none => simp [memop] at e
  | bool _ => simp [memop] at e
  | int _ => simp [memop] at e

theorem op_cmp (hW : W.K = X.K) (hu : X.A.units + 65 < cLine) (o : COp) : OpR X (compareOp (copOf o)) (rCmp W o) := by
  cases o with
  | eq =>
    refine cmpI (o := .eq) (op_eqD (by omega)) fun u w H Q h => ?_
    obtain ⟨ρ, m, x, y, b, s, rx, ry, e, q⟩ := h
    obtain ⟨d, f, h1, h2, h3, h4, h5⟩ := eq_data s rx ry e
    rw [hW] at h1 h2
    exact ⟨d, f, h1, h2, h3, h4, by rw [h5]; exact q⟩
  | ne =>
    refine cmpI (o := .ne) (op_neD (by omega)) fun u w H Q h => ?_
    obtain ⟨ρ, m, x, y, b, s, rx, ry, e, q⟩ := h
    obtain ⟨c, e1, e2⟩ := Option.map_eq_some_iff.mp e
    obtain ⟨d, f, h1, h2, h3, h4, h5⟩ := eq_data s rx ry e1
    rw [hW] at h1 h2
    exact ⟨d, f, h1, h2, h3, h4, by rw [h5, e2]; exact q⟩
  | lt =>
    refine cmpI (o := .lt) (op_lt.or op_lt_str) fun u w H Q h => ?_
    obtain ⟨ρ, m, x, y, b, s, rx, ry, e, q⟩ := h
    cases rx with
    | int i =>
      cases ry with
      | int j => exact .inl ⟨i, j, rfl, rfl, by cases e; exact q⟩
      | _ => cases e
    | str a ha =>
      cases ry with
      | str c hc => exact .inr ⟨_, _, rfl, rfl, by rw [sv_list, sv_list]; cases e; exact q⟩
      | _ => cases e
    | _ => cases ry <;> cases e
  | gt =>
    refine cmpI (o := .gt) (op_gt.or op_gt_str) fun u w H Q h => ?_
    obtain ⟨ρ, m, x, y, b, s, rx, ry, e, q⟩ := h
    cases rx with
    | int i =>
      cases ry with
      | int j => exact .inl ⟨i, j, rfl, rfl, by cases e; exact q⟩
      | _ => cases e
    | str a ha =>
      cases ry with
      | str c hc => exact .inr ⟨_, _, rfl, rfl, by rw [sv_list, sv_list]; cases e; exact q⟩
      | _ => cases e
    | _ => cases ry <;> cases e
  | le =>
    refine cmpI (o := .le) op_le fun u w H Q h => ?_
    obtain ⟨ρ, m, x, y, b, s, rx, ry, e, q⟩ := h
    cases rx with
    | int i =>
      cases ry with
      | int j => exact ⟨i, j, rfl, rfl, by cases e; exact q⟩
      | _ => cases e
    | _ => cases ry <;> cases e
  | ge =>
    refine cmpI (o := .ge) op_ge fun u w H Q h => ?_
    obtain ⟨ρ, m, x, y, b, s, rx, ry, e, q⟩ := h
    cases rx with
    | int i =>
      cases ry with
      | int j => exact ⟨i, j, rfl, rfl, by cases e; exact q⟩
      | _ => cases e
    | _ => cases ry <;> cases e
  | isn =>
    refine cmpI (o := .isn) op_isN fun u w H Q h => ?_
    obtain ⟨ρ, m, x, y, b, s, rx, ry, e, q⟩ := h
    cases y with
    | none => exact ⟨none_of ry, by rw [isNone_of rx]; cases e; exact q⟩
    | _ => cases e
  | notn =>
    refine cmpI (o := .notn) op_notN fun u w H Q h => ?_
    obtain ⟨ρ, m, x, y, b, s, rx, ry, e, q⟩ := h
    cases y with
    | none => exact ⟨none_of ry, by rw [isNone_of rx]; cases e; exact q⟩
    | _ => cases e
  | mem =>
    refine cmpI (o := .mem) (op_in_sign.or ((op_inD hu).or (in_tup_D hu))) fun u w H Q h => ?_
    obtain ⟨ρ, m, x, y, b, s, rx, ry, e, q⟩ := h
    rcases seq_dat s rx ry e with ⟨c, z, h1, h2, h3⟩ | ⟨d, ds, h1, h2, h3, h4, h5⟩ | ⟨d, ds, h1, h2, h3, h4, h5⟩
    · exact .inl ⟨c, z, h1, h2, by rw [← h3]; exact q⟩
    · rw [hW] at h1 h2
      exact .inr (.inl ⟨d, ds, h1, h2, h3, h4, by rw [h5]; exact q⟩)
    · rw [hW] at h1 h2
      exact .inr (.inr ⟨d, ds, h1, h2, h3, h4, by rw [h5]; exact q⟩)
  | nmem =>
    refine cmpI (o := .nmem) (op_notIn_sign.or ((op_notInD hu).or (notIn_tup_D hu))) fun u w H Q h => ?_
    obtain ⟨ρ, m, x, y, b, s, rx, ry, e, q⟩ := h
    obtain ⟨c0, e1, e2⟩ := Option.map_eq_some_iff.mp e
    rcases seq_dat s rx ry e1 with ⟨c, z, h1, h2, h3⟩ | ⟨d, ds, h1, h2, h3, h4, h5⟩ | ⟨d, ds, h1, h2, h3, h4, h5⟩
    · exact .inl ⟨c, z, h1, h2, by rw [← h3, e2]; exact q⟩
    · rw [hW] at h1 h2
      exact .inr (.inl ⟨d, ds, h1, h2, h3, h4, by rw [h5, e2]; exact q⟩)
    · rw [hW] at h1 h2
      exact .inr (.inr ⟨d, ds, h1, h2, h3, h4, by rw [h5, e2]; exact q⟩)

/-! ### truth, len, places -/
theorem truth_of (hW : W.K = X.K) {ρ : Nat → Addr} {m : Mem} {H : Hp} {x : Val} {u : V} {b : Bool} (s : Sim W ρ m H) (r : Rep W.K ρ m.length H x u) (e : truth m x = some b) : TruV X.K u H b := by
  cases r with
  | none => cases e; exact rfl
  | bool c => cases e; exact rfl
  | int i => cases e; exact rfl
  | str a ha =>
    unfold truth at e
    simp only at e
    split at e
    · rename_i h
      cases e
      refine ⟨by rw [sv_len, ← sz_line]; exact h, ?_⟩
      rw [sv_len]
      cases a <;> simp [bne]
      rename_i c t
      intro z
      have : (t.length : Int) + 1 = 0 := z
      omega
    · cases e
  | @fro xs a h =>
    cases e
    refine .inl ⟨_, by rw [← hW]; exact h.l, ?_⟩
    cases xs <;> rfl
  | @tup xs a vs h r =>
    cases e
    refine .inr (.inl ⟨vs, by rw [← hW]; exact sqT_of h, ?_⟩)
    cases r <;> rfl
  | @ref k hk =>
    unfold truth at e
    simp only at e
    split at e
    · rename_i xs ek
      cases e
      obtain ⟨us, q, r⟩ := s.obj k _ ek
      cases r with
      | list r =>
        refine .inl ⟨_, SqL.of q, ?_⟩
        cases r <;> rfl
    · cases e
theorem ixOf_eq (n : Nat) (i : Int) : ixOf n i = ixN n i := rfl
theorem atIx_get {K : PySem.W.Frag} {ρ : Nat → Addr} {n : Nat} {H : Hp} {xs : List Val} {us : List V} {i : Int} {v : Val} (r : RepL K ρ n H xs us) (e : atIx xs i = some v) : ∃ u, atI us i = some u ∧ Rep K ρ n H v u := by
  unfold atIx at e
  unfold atI
  rw [← r.length, ← ixOf_eq]
  obtain ⟨j, e1, e2⟩ := Option.bind_eq_some_iff.mp e
  obtain ⟨u, h1, h2⟩ := r.get e2
  exact ⟨u, by rw [e1]; exact h1, h2⟩
def rIdx (W : Wd) : R2 := fun u w H Q => ∃ ρ m x y v, Sim W ρ m H ∧ Rep W.K ρ m.length H x u ∧ Rep W.K ρ m.length H y w ∧ idxop m x y = some v ∧ ∀ z, Rep W.K ρ m.length H v z → Q z H
theorem ix_any (hW : W.K = X.K) : IxR X (rIdx W) := by
  intro v0 sl0 pins st σ H u w ov iv Q I ru rw' h hs
  refine ix_seq v0 sl0 pins st σ H u w ov iv Q I ru rw' ?_ hs
  obtain ⟨ρ, m, x, y, v, s, rx, ry, e, q⟩ := h
  cases rx with
  | str a ha =>
    cases ry with
    | int k =>
      unfold idxop at e
      simp only at e
      split at e
      · rename_i hl
        obtain ⟨c, e1, e2⟩ := Option.map_eq_some_iff.mp e
        subst e2
        refine .inr (.inr ⟨_, k, c, rfl, rfl, by rw [sv_len, ← sz_line]; exact hl, ?_, q _ ?_⟩)
        · rw [sv_list]
          unfold atIx at e1
          unfold atI
          rw [← ixOf_eq]; exact e1
        · have hc : c ∈ a := by
            unfold atIx at e1
            obtain ⟨j, _, e3⟩ := Option.bind_eq_some_iff.mp e1
            exact List.mem_of_getElem? e3
          exact .str [c] (okS_mem ha fun z hz => by rw [List.mem_singleton.mp hz]; exact hc)
      · cases e
    | _ => cases e
  | @fro xs a hf =>
    cases ry with
    | int k =>
      have e' : atIx (xs.map Val.int) k = some v := by
        have e2 : (atIx xs k).map Val.int = some v := e
        unfold atIx at e2 ⊢
        rw [List.length_map]
        cases q : ixOf xs.length k with
        | none => rw [q] at e2; cases e2
        | some j =>
          rw [q, Option.bind_some] at e2
          rw [Option.bind_some, List.getElem?_map]
          exact e2
      obtain ⟨z, e1, r1⟩ := atIx_get (RepL.ints (K := W.K) (ρ := ρ) (n := m.length) (H := H) xs) e'
      exact .inl ⟨a, _, k, z, rfl, rfl, by rw [← hW]; exact hf.l, e1, q z r1⟩
    | _ => cases e
  | @tup xs a vs ha ra =>
    cases ry with
    | int k =>
      obtain ⟨z, e1, r1⟩ := atIx_get ra e
      exact .inr (.inl ⟨a, vs, k, z, rfl, rfl, by rw [← hW]; exact sqT_of ha, e1, q z r1⟩)
    | _ => cases e
  | @ref k hk =>
    unfold idxop at e
    simp only at e
    split at e
    · rename_i xs ek
      cases ry with
      | int i =>
        obtain ⟨us, q1, r⟩ := s.obj k _ ek
        cases r with
        | list r =>
          obtain ⟨z, e1, r1⟩ := atIx_get r e
          exact .inl ⟨_, _, i, z, rfl, rfl, SqL.of q1, e1, q z r1⟩
      | _ => cases e
    · cases e
  | _ => cases ry <;> cases e

/-! ### slices -/
theorem cutIx_eq (n d : Nat) (o : Option Int) : cutIx n d o = HT.sIx n d o := by cases o <;> rfl
theorem cut_rep {K : PySem.W.Frag} {ρ : Nat → Addr} {n : Nat} {H : Hp} {xs : List Val} {us : List V} (lo hi : Option Int) (r : RepL K ρ n H xs us) : RepL K ρ n H (cut xs lo hi) (cutV us lo hi) := by
  unfold cut cutV
  rw [cutIx_eq, cutIx_eq, r.length]
  exact (r.drop _).take _
def rSli (W : Wd) : V → Option Int → Option Int → Hp → VK → Prop := fun u lo hi H Q => ∃ ρ m x, Sim W ρ m H ∧ Rep W.K ρ m.length H x u ∧ PV W ρ m.length H (sliceop m x lo hi) Q
theorem sl_any (hW : W.K = X.K) : SlR X (rSli W) := by
  intro pins st σ H x v vl vu lo hi sl Q I rx0 hs pl pu h
  refine (sl_list.or (sl_tupA.or sl_str)) pins st σ H x v vl vu lo hi sl Q I rx0 hs pl pu ?_
  obtain ⟨ρ, m, y, s, ry, p⟩ := h
  cases ry with
  | str a ha =>
    unfold sliceop at p
    simp only at p
    split at p
    · rename_i hl
      refine .inr (.inr ⟨_, rfl, by rw [sv_len, ← sz_line]; exact hl, ?_⟩)
      have e : cutS (sv a) lo hi = sv (cut a lo hi) := by
        unfold cutS cut
        rw [sv_list, sv_len, cutIx_eq, cutIx_eq]; rfl
      rw [e]
      refine s.one p (.str _ (okS_mem ha fun c hc => ?_))
      unfold cut at hc
      exact List.mem_of_mem_drop (List.mem_of_mem_take hc)
    · exact (show False from p).elim
  | fro _ => exact (show False from p).elim
  | @tup xs a vs hx rx =>
    refine .inr (.inl ⟨a, vs, rfl, by rw [← hW]; exact sqT_of hx, fun hw => ?_, fun _ => s.tupn p (cut_rep lo hi rx)⟩)
    have e : cut xs lo hi = xs := by
      unfold cut
      rw [cutIx_eq, cutIx_eq, rx.length, hw.1, hw.2, List.drop_zero, Nat.sub_zero, ← rx.length, List.take_length]
    unfold sliceop at p
    simp only [e] at p
    exact s.one p (.tup hx rx)
  | @ref k hk =>
    unfold sliceop at p
    simp only at p
    split at p
    · rename_i xs ek
      obtain ⟨_, _, us, q, r⟩ := s.list ek
      exact .inl ⟨_, us, rfl, SqL.of q, s.lst p (cut_rep lo hi r)⟩
    · exact (show False from p).elim
  | none => exact (show False from p).elim
  | bool _ => exact (show False from p).elim
  | int _ => exact (show False from p).elim
end
end Py

namespace Py
open PySem PySem.Spec PyProof.Rows L2

section
variable {X : Cx} {W : Wd}
def rBlt (W : Wd) (f : Blt) : List V → Hp → VK → Prop := fun us H Q => ∃ ρ m vs, Sim W ρ m H ∧ RepL W.K ρ m.length H vs us ∧ PV W ρ m.length H (bltop f vs m) Q
theorem cI {f : Value} {r : List V → Hp → VK → Prop} {b : Blt} (h : CallR X f r) (k : ∀ us H Q, rBlt W b us H Q → r us H Q) : CallR X f (rBlt W b) := fun pins s σ H xs us Q I rx q => h pins s σ H xs us Q I rx (k _ _ _ q)

theorem lenV_of (hW : W.K = X.K) {ρ : Nat → Addr} {m : Mem} {H : Hp} {x : Val} {u : V} {n : Nat} (s : Sim W ρ m H) (r : Rep W.K ρ m.length H x u) (e : lenop m x = some n) : LenV X.K u H n := by
  cases r with
  | str a ha =>
    unfold lenop at e
    simp only at e
    split at e
    · rename_i h
      cases e
      exact ⟨by rw [sv_len, ← sz_line]; exact h, (sv_len a).symm⟩
    · cases e
  | @fro xs a h =>
    cases e
    exact .inl ⟨_, by rw [← hW]; exact h.l, (List.length_map _).symm⟩
  | @tup xs a vs h r =>
    cases e
    exact .inr ⟨vs, by rw [← hW]; exact sqT_of h, r.length⟩
  | @ref k hk =>
    unfold lenop at e
    simp only at e
    split at e
    · rename_i xs ek
      cases e
      obtain ⟨us, q, r⟩ := s.obj k _ ek
      cases r with
      | list r => exact .inl ⟨_, SqL.of q, r.length⟩
    · cases e
  | none => cases e
  | bool _ => cases e
  | int _ => cases e
theorem ints_of {K : PySem.W.Frag} {ρ : Nat → Addr} {n : Nat} {H : Hp} : ∀ {xs : List Val} {us : List V} {ns : List Int}, RepL K ρ n H xs us → intsOf xs = some ns → us = ns.map V.int
  | _, _, ns, .nil, e => by cases e; rfl
  | _, _, ns, .cons h t, e => by
    cases h with
    | int i =>
      simp only [intsOf] at e
      obtain ⟨ms, e1, e2⟩ := Option.map_eq_some_iff.mp e
      subst e2
      rw [ints_of t e1]; rfl
    | _ => simp [intsOf] at e
theorem b_len (hW : W.K = X.K) : CallR X (.builtin "len") (rBlt W .len) := by
  refine cI call_len fun us H Q h => ?_
  obtain ⟨ρ, m, vs, s, r, p⟩ := h
  match vs, r, p with
  | [v], .cons r .nil, p =>
    unfold bltop at p
    simp only at p
    split at p
    · rename_i n e
      exact ⟨_, n, rfl, lenV_of hW s r e, s.one p (.int _)⟩
    · exact (show False from p).elim
  | [], _, p => exact (show False from p).elim
  | _ :: _ :: _, _, p => exact (show False from p).elim
theorem b_min (hc : X.calm = true) : CallR X (.builtin "min") (rBlt W .min) := by
  refine cI (call_min2 hc) fun us H Q h => ?_
  obtain ⟨ρ, m, vs, s, r, p⟩ := h
  unfold bltop at p
  simp only at p
  split at p
  · rename_i i j
    match us, r with
    | _, .cons (.int _) (.cons (.int _) .nil) => exact ⟨i, j, rfl, s.one p (.int _)⟩
  · exact (show False from p).elim
theorem b_max (hc : X.calm = true) : CallR X (.builtin "max") (rBlt W .max) := by
  refine cI (call_max2 hc) fun us H Q h => ?_
  obtain ⟨ρ, m, vs, s, r, p⟩ := h
  unfold bltop at p
  simp only at p
  split at p
  · rename_i i j
    match us, r with
    | _, .cons (.int _) (.cons (.int _) .nil) => exact ⟨i, j, rfl, s.one p (.int _)⟩
  · exact (show False from p).elim
theorem b_abs : CallR X (.builtin "abs") (rBlt W .abs) := by
  refine cI call_abs fun us H Q h => ?_
  obtain ⟨ρ, m, vs, s, r, p⟩ := h
  unfold bltop at p
  simp only at p
  split at p
  · rename_i i
    match us, r with
    | _, .cons (.int _) .nil => exact ⟨i, rfl, s.one p (.int _)⟩
  · exact (show False from p).elim
theorem b_int : CallR X (.type "int") (rBlt W .int) := by
  refine cI call_int1 fun us H Q h => ?_
  obtain ⟨ρ, m, vs, s, r, p⟩ := h
  unfold bltop at p
  simp only at p
  split at p
  · rename_i i
    match us, r with
    | _, .cons (.int _) .nil => exact .inl ⟨i, rfl, s.one p (.int _)⟩
  · rename_i i
    match us, r with
    | _, .cons (.bool _) .nil => exact .inr ⟨i, rfl, s.one p (.int _)⟩
  · exact (show False from p).elim
/-- sum of a tuple of ints -/
def rSumT (K : PySem.W.Frag) : List V → Hp → VK → Prop := fun vs H Q => ∃ (a : Addr) (ns : List Int), vs = [V.ref a] ∧ SqT K H a (ns.map V.int) ∧ Q (.int ns.sum) H
theorem cr_sumT (hc : X.calm = true) : CallR X (.builtin "sum") (rSumT X.K) := by
  intro pins s σ H vs us Q I r h
  obtain ⟨a, ns, rfl, hs, q⟩ := h
  obtain ⟨its, rv, hl, _⟩ := I.tuple hs
  rw [Vals.ref1 r]
  obtain ⟨xs, e⟩ := rv.ints.allInts.items
  have hn : numsOf (intItems xs).toList = ns := by rw [← e]; exact rv.ints.numsOf
  rw [nums_intItems] at hn
  rw [e] at hl
  refine PySem.W.ktm_sumG (I.ok.hd hc) hl fun h' tk t' hk => ?_
  rw [preSum_eq, List.take_of_length_le (by simp), hn]
  exact ⟨.int _, H, I.kept hk, ⟨_, rfl⟩, q⟩
theorem b_sum (hW : W.K = X.K) (hc : X.calm = true) : CallR X (.builtin "sum") (rBlt W .sum) := by
  refine cI (r := fun us H Q => rSum X.K us H Q ∨ rSumT X.K us H Q) (fun pins s σ H xs us Q I rx q => q.elim (cr_sum hc pins s σ H xs us Q I rx) (cr_sumT hc pins s σ H xs us Q I rx)) fun us H Q h => ?_
  obtain ⟨ρ, m, vs, s, r, p⟩ := h
  unfold bltop at p
  simp only at p
  split at p
  · rename_i v
    split at p
    · rename_i ns e
      obtain ⟨xs, e1, e2⟩ := Option.bind_eq_some_iff.mp e
      match us, r with
      | [u], .cons r .nil =>
        obtain ⟨a, ws, e3, e4, rl⟩ := s.seq r e1
        have e5 := ints_of rl e2
        subst e3 e5
        rw [hW] at e4
        rcases e4 with e4 | e4
        · exact .inl ⟨a, ns, rfl, e4, s.one p (.int _)⟩
        · exact .inr ⟨a, ns, rfl, e4, s.one p (.int _)⟩
    · exact (show False from p).elim
  · exact (show False from p).elim
theorem b_list (hW : W.K = X.K) : CallR X (.type "list") (rBlt W .list) := by
  refine cI call_list_of fun us H Q h => ?_
  obtain ⟨ρ, m, vs, s, r, p⟩ := h
  unfold bltop at p
  simp only at p
  split at p
  · split at p
    · rename_i xs e
      match us, r with
      | _, .cons r .nil =>
        obtain ⟨a, ws, rfl, hs, rl⟩ := s.seq r e
        rw [hW] at hs
        exact ⟨a, ws, rfl, hs, s.lst p rl⟩
    · exact (show False from p).elim
  · exact (show False from p).elim
theorem b_tuple (hW : W.K = X.K) : CallR X (.type "tuple") (rBlt W .tuple) := by
  refine cI call_tuple_of fun us H Q h => ?_
  obtain ⟨ρ, m, vs, s, r, p⟩ := h
  unfold bltop at p
  simp only at p
  split at p
  · rename_i v
    split at p
    · rename_i xs e
      match us, r with
      | _, .cons r .nil =>
        cases r with
        | tup ht rl =>
          cases e
          exact ⟨_, _, rfl, .inr ⟨by rw [← hW]; exact sqT_of ht, s.one p (.tup ht rl)⟩⟩
        | fro hf =>
          cases e
          exact ⟨_, _, rfl, .inl ⟨by rw [← hW]; exact hf.l, s.tupn p (RepL.ints _)⟩⟩
        | ref hk =>
          obtain ⟨_, _, ws, q, rl⟩ := s.list e
          exact ⟨_, ws, rfl, .inl ⟨SqL.of q, s.tupn p rl⟩⟩
        | _ => cases e
    · exact (show False from p).elim
  · exact (show False from p).elim

/-! ### methods of lists -/
def rBm (W : Wd) (f : BM) : V → List V → Hp → VK → Prop := fun u us H Q => ∃ ρ m v vs, Sim W ρ m H ∧ Rep W.K ρ m.length H v u ∧ RepL W.K ρ m.length H vs us ∧ PV W ρ m.length H (bmop f v vs m) Q
theorem mI {id : String} {r : V → List V → Hp → VK → Prop} {b : BM} (h : MtR X id r) (k : ∀ u us H Q, rBm W b u us H Q → r u us H Q) : MtR X id (rBm W b) := fun pins s σ H x xs v us Q I rx rs q => h pins s σ H x xs v us Q I rx rs (k _ _ _ _ q)
theorem m_append : MtR X "list.append" (rBm W .append) := by
  refine mI (fun pins s σ H x xs v us Q I rx rs q => mt_append pins s σ H x xs v us Q I rx rs q) fun u us H Q h => ?_
  obtain ⟨ρ, m, v, vs, s, r, rs, p⟩ := h
  unfold bmop at p
  simp only at p
  split at p
  · rename_i k y
    split at p
    · rename_i xs e
      split at p
      · rename_i hl
        obtain ⟨hk, _, ws, q, rl⟩ := s.list e
        match u, us, r, rs with
        | _, _, .ref _, .cons ry .nil =>
          exact ⟨_, ws, _, rfl, rfl, q, by rw [← rl.length, ← sz_line]; exact hl, s.putv hk p (.list (rl.append (.cons ry .nil))) .none⟩
      · exact (show False from p).elim
    · exact (show False from p).elim
  · exact (show False from p).elim
theorem RepL.erase {K : PySem.W.Frag} {ρ : Nat → Addr} {n : Nat} {H : Hp} : ∀ {v : List Val} {u : List V} (k : Nat), RepL K ρ n H v u → RepL K ρ n H (v.eraseIdx k) (u.eraseIdx k)
  | _, _, _, .nil => .nil
  | _, _, 0, .cons _ t => t
  | _, _, k + 1, .cons h t => .cons h (RepL.erase k t)
theorem seqIx_of {n k : Nat} {i : Int} (h : ixOf n i = some k) : seqIndex? i n = some k := by
  unfold ixOf at h
  unfold seqIndex?
  split at h
  · split at h
    · cases h
      rename_i h0 h1
      have : ¬ i < 0 := by omega
      simp [this, h0, h1]
    · cases h
  · split at h
    · cases h
      rename_i h0 h1
      have a : i < 0 := by omega
      have b : 0 ≤ i + (n : Int) := by omega
      have c : i + (n : Int) < n := by omega
      simp [a, b, c]
    · cases h
theorem m_pop : MtR X "list.pop" (rBm W .pop) := by
  refine mI (r := fun u us H Q => rPop u us H Q ∨ rPopAt u us H Q) (fun pins s σ H x xs v us Q I rx rs q => q.elim (mt_pop pins s σ H x xs v us Q I rx rs) (mt_popAt pins s σ H x xs v us Q I rx rs)) fun u us H Q h => ?_
  obtain ⟨ρ, m, v, vs, s, r, rs, p⟩ := h
  unfold bmop at p
  simp only at p
  split at p
  · rename_i k
    split at p
    · rename_i xs e
      split at p
      · rename_i y ey
        obtain ⟨hk, _, ws, q, rl⟩ := s.list e
        obtain ⟨w, h1, h2⟩ := rl.get ey
        match u, us, r, rs with
        | _, _, .ref _, .nil =>
          exact .inl ⟨_, ws, w, rfl, rfl, q, by rw [← rl.length]; exact h1, s.putv hk p (.list rl.dropLast) h2⟩
      · exact (show False from p).elim
    · exact (show False from p).elim
  · rename_i k i
    split at p
    · rename_i xs e
      split at p
      · rename_i pr ey
        split at p
        · rename_i hi
          obtain ⟨hk, _, ws, q, rl⟩ := s.list e
          obtain ⟨j, e1, e2⟩ := Option.bind_eq_some_iff.mp ey
          obtain ⟨y, e3, e4⟩ := Option.map_eq_some_iff.mp e2
          subst e4
          obtain ⟨w, h1, h2⟩ := rl.get e3
          match u, us, r, rs with
          | _, _, .ref _, .cons (.int _) .nil =>
            exact .inr ⟨_, ws, i, j, w, rfl, rfl, q, by have := hi.1; omega, by have := hi.2; omega, by rw [← rl.length]; exact seqIx_of e1, h1, s.putv hk p (.list (rl.erase j)) h2⟩
        · exact (show False from p).elim
      · exact (show False from p).elim
    · exact (show False from p).elim
  · exact (show False from p).elim
theorem m_clear : MtR X "list.clear" (rBm W .clear) := by
  refine mI (fun pins s σ H x xs v us Q I rx rs q => mt_clear pins s σ H x xs v us Q I rx rs q) fun u us H Q h => ?_
  obtain ⟨ρ, m, v, vs, s, r, rs, p⟩ := h
  unfold bmop at p
  simp only at p
  split at p
  · rename_i k
    split at p
    · rename_i xs e
      obtain ⟨hk, _, ws, q, rl⟩ := s.list e
      match u, us, r, rs with
      | _, _, .ref _, .nil =>
        exact ⟨_, ws, rfl, rfl, q, s.putv hk p (.list .nil) .none⟩
    · exact (show False from p).elim
  · exact (show False from p).elim
theorem m_reverse : MtR X "list.reverse" (rBm W .reverse) := by
  refine mI (fun pins s σ H x xs v us Q I rx rs q => mt_reverse pins s σ H x xs v us Q I rx rs q) fun u us H Q h => ?_
  obtain ⟨ρ, m, v, vs, s, r, rs, p⟩ := h
  unfold bmop at p
  simp only at p
  split at p
  · rename_i k
    split at p
    · rename_i xs e
      obtain ⟨hk, _, ws, q, rl⟩ := s.list e
      match u, us, r, rs with
      | _, _, .ref _, .nil =>
        exact ⟨_, ws, rfl, rfl, q, s.putv hk p (.list rl.reverse) .none⟩
    · exact (show False from p).elim
  · exact (show False from p).elim
end
end Py

namespace Py
open PySem PySem.Spec PyProof.Rows L2

/-! ### no operation raises -/
theorem binop_nx {o : BOp} {x y : Val} {m m' : Mem} {c : PySem.Str} {fs} : binop o x y m ≠ .exc c fs m' := by
  unfold binop; split <;> (try split) <;> (try split) <;> simp
theorem sliceop_nx {x : Val} {lo hi : Option Int} {m m' : Mem} {c : PySem.Str} {fs} : sliceop m x lo hi ≠ .exc c fs m' := by
  unfold sliceop; split <;> (try split) <;> simp
theorem negop_nx {x : Val} {m m' : Mem} {c : PySem.Str} {fs} : negop x m ≠ .exc c fs m' := by
  unfold negop; split <;> simp
theorem bltop_nx {f : Blt} {vs : List Val} {m m' : Mem} {c : PySem.Str} {fs} : bltop f vs m ≠ .exc c fs m' := by
  unfold bltop; cases f <;> simp only <;> split <;> (try split) <;> simp
theorem bmop_nx {f : BM} {o : Val} {vs : List Val} {m m' : Mem} {c : PySem.Str} {fs} : bmop f o vs m ≠ .exc c fs m' := by
  unfold bmop; cases f <;> simp only <;> split <;> (try split) <;> (try split) <;> (try split) <;> simp
section
variable {W : Wd} {wx : WX} {σ : L2.St} {ρ : Nat → Addr} {n : Nat} {H : Hp}
theorem Post.nx {r : Res Val} {Q : VK} (p : Post W wx σ ρ n H r Q) (h : ∀ c fs m, r ≠ .exc c fs m) : PV W ρ n H r Q := by
  cases r with
  | ok v m => exact p
  | exc c fs m => exact absurd rfl (h c fs m)
  | err => exact p
end

/-! ### cells that nothing holds may go -/
mutual
theorem under_mono {n n' : Nat} (h : n ≤ n') : ∀ v : Val, v.under n = true → v.under n' = true
  | .none, _ => by unfold Val.under; rfl
  | .bool _, _ => by unfold Val.under; rfl
  | .int _, _ => by unfold Val.under; rfl
  | .str _, _ => by unfold Val.under; rfl
  | .tup xs, e => by unfold Val.under at e ⊢; exact underL_mono h xs e
  | .fro _, _ => by unfold Val.under; rfl
  | .ref k, e => by
    unfold Val.under at e ⊢
    exact decide_eq_true (Nat.lt_of_lt_of_le (of_decide_eq_true e) h)
theorem underL_mono {n n' : Nat} (h : n ≤ n') : ∀ v : List Val, Val.underL n v = true → Val.underL n' v = true
  | [], _ => by unfold Val.underL; rfl
  | x :: xs, e => by
    unfold Val.underL at e ⊢
    rw [Bool.and_eq_true] at e ⊢
    exact ⟨under_mono h x e.1, underL_mono h xs e.2⟩
end
theorem Ob.under_mono {n n' : Nat} (h : n ≤ n') (o : Ob) (e : o.under n = true) : o.under n' = true := by
  cases o with
  | list xs => unfold Ob.under at *; exact underL_mono h _ e
  | dict t kvs =>
    unfold Ob.under at *
    rw [List.all_eq_true] at *
    intro p hp
    have := e p hp
    rw [Bool.and_eq_true] at this ⊢
    exact ⟨Py.under_mono h _ this.1, Py.under_mono h _ this.2⟩
  | inst c fs =>
    unfold Ob.under at *
    rw [List.all_eq_true] at *
    exact fun p hp => Py.under_mono h _ (e p hp)
section
variable {K : PySem.W.Frag} {ρ : Nat → Addr} {n N : Nat} {H : Hp}
mutual
theorem Rep.under : ∀ {v : Val} {u : V}, Rep K ρ n H v u → v.under n = true
  | _, _, .none => by unfold Val.under; rfl
  | _, _, .bool _ => by unfold Val.under; rfl
  | _, _, .int _ => by unfold Val.under; rfl
  | _, _, .str _ _ => by unfold Val.under; rfl
  | _, _, .tup _ r => by unfold Val.under; exact RepL.under r
  | _, _, .fro _ => by unfold Val.under; rfl
  | _, _, .ref h => by unfold Val.under; exact decide_eq_true h
theorem RepL.under : ∀ {v : List Val} {u : List V}, RepL K ρ n H v u → Val.underL n v = true
  | _, _, .nil => by unfold Val.underL; rfl
  | _, _, .cons h t => by unfold Val.underL; rw [Rep.under h, RepL.under t]; rfl
end
mutual
theorem Rep.low : ∀ {v : Val} {u : V}, Rep K ρ N H v u → v.under n = true → Rep K ρ n H v u
  | _, _, .none, _ => .none
  | _, _, .bool _, _ => .bool _
  | _, _, .int _, _ => .int _
  | _, _, .str _ h, _ => .str _ h
  | _, _, .tup h r, e => .tup h (RepL.low r (by unfold Val.under at e; exact e))
  | _, _, .fro h, _ => .fro h
  | _, _, .ref _, e => .ref (by unfold Val.under at e; exact of_decide_eq_true e)
theorem RepL.low : ∀ {v : List Val} {u : List V}, RepL K ρ N H v u → Val.underL n v = true → RepL K ρ n H v u
  | _, _, .nil, _ => .nil
  | _, _, .cons h t, e => by
    unfold Val.underL at e
    rw [Bool.and_eq_true] at e
    exact .cons (Rep.low h e.1) (RepL.low t e.2)
end
theorem FldR.under {v u} (h : FldR K ρ n H v u) : (v.all fun p => p.2.under n) = true := by
  induction h with
  | nil => rfl
  | cons h t ih => rw [List.all_cons, h.under, ih]; rfl
theorem FldR.low {v u} (h : FldR K ρ N H v u) (e : (v.all fun p => p.2.under n) = true) : FldR K ρ n H v u := by
  induction h with
  | nil => exact .nil
  | cons h t ih =>
    rw [List.all_cons, Bool.and_eq_true] at e
    exact .cons (h.low e.1) (ih e.2)
theorem KeyR.under {x k} (h : KeyR x k) : x.under n = true := by cases h <;> (unfold Val.under; rfl)
theorem KeyRs.under {x k} (h : KeyRs x k) : Val.underL n x = true := by
  induction h with
  | nil => unfold Val.underL; rfl
  | cons h t ih => unfold Val.underL; rw [h.under, ih]; rfl
theorem EntK.under {v u} (h : EntK K ρ n H v u) : (v.all fun p => p.1.under n && p.2.under n) = true := by
  induction h with
  | nil => rfl
  | cons k h t ih => rw [List.all_cons, h.under, k.under, ih]; rfl
theorem EntK.low {v u} (h : EntK K ρ N H v u) (e : (v.all fun p => p.1.under n && p.2.under n) = true) : EntK K ρ n H v u := by
  induction h with
  | nil => exact .nil
  | cons k h t ih =>
    rw [List.all_cons, Bool.and_eq_true, Bool.and_eq_true] at e
    exact .cons k (h.low e.1.2) (ih e.2)
theorem EntT.under {v u} (h : EntT K ρ n H v u) : (v.all fun p => p.1.under n && p.2.under n) = true := by
  induction h with
  | nil => rfl
  | cons k h t ih => rw [List.all_cons, h.under, ih]; unfold Val.under; rw [k.under]; rfl
theorem EntT.low {v u} (h : EntT K ρ N H v u) (e : (v.all fun p => p.1.under n && p.2.under n) = true) : EntT K ρ n H v u := by
  induction h with
  | nil => exact .nil
  | cons k h t ih =>
    rw [List.all_cons, Bool.and_eq_true, Bool.and_eq_true] at e
    exact .cons k (h.low e.1.2) (ih e.2)
theorem RepO.under {W : Wd} {o u} (h : RepO W ρ n H o u) : o.under n = true := by
  cases h with
  | list h => unfold Ob.under; exact h.under
  | inst h _ _ => unfold Ob.under; exact h.under
  | dK h => unfold Ob.under; exact h.under
  | dT h => unfold Ob.under; exact h.under
theorem RepO.low {W : Wd} {o u} (h : RepO W ρ N H o u) (e : o.under n = true) : RepO W ρ n H o u := by
  cases h with
  | list h => unfold Ob.under at e; exact .list (h.low e)
  | inst h a b => unfold Ob.under at e; exact .inst (h.low e) a b
  | dK h => unfold Ob.under at e; exact .dK (h.low e)
  | dT h => unfold Ob.under at e; exact .dT (h.low e)
end
section
variable {W : Wd} {ρ ρ' : Nat → Addr} {m0 m : Mem} {H H' : Hp}
theorem Sim.cut (s0 : Sim W ρ m0 H) (s : Sim W ρ' m H') (hl : m0.length ≤ m.length) (h : ∀ (i : Nat) (o : Ob), (m.take m0.length)[i]? = some o → m0[i]? = some o ∨ o.under m0.length = true) : Sim W ρ' (m.take m0.length) H' := by
  have el : (m.take m0.length).length = m0.length := by rw [List.length_take]; omega
  refine ⟨fun i j hi hj e => s.inj i j (by omega) (by omega) e, fun i o q => ?_⟩
  have u : o.under m0.length = true := by
    rcases h i o q with z | z
    · obtain ⟨w, _, r⟩ := s0.obj i o z
      exact r.under
    · exact z
  rw [List.getElem?_take] at q
  split at q
  · obtain ⟨w, a, r⟩ := s.obj i o q
    exact ⟨w, a, by rw [el]; exact r.low u⟩
  · cases q
theorem Ext.cut {K : PySem.W.Frag} {n n' : Nat} (x : Ext K ρ n H ρ' n' H') : Ext K ρ n H ρ' n H' :=
  ⟨Nat.le_refl _, x.agree, x.tups, x.tupt, x.frame, x.keep, fun i h1 h2 => absurd h2 (Nat.not_lt.mpr h1)⟩
theorem gc_ok {wx : WX} {σ : L2.St} {r : Res Val} {Q : VK} (s0 : Sim W ρ m0 H) (p : Post W wx σ ρ m0.length H (gc m0 r) Q) : Post W wx σ ρ m0.length H r Q := by
  cases r with
  | err => exact p
  | exc c fs m => exact p
  | ok v m =>
    intro ρ' H' u x s r
    unfold gc at p
    simp only at p
    split at p
    · rename_i h
      obtain ⟨hl, hk⟩ := h
      have el : (m.take m0.length).length = m0.length := by rw [List.length_take]; omega
      split at p
      · rename_i hu
        exact p ρ' H' u (by rw [el]; exact x.cut) (s0.cut s hl hk) (by rw [el]; exact r.low hu)
      · split at p
        · rename_i k hv
          split at p
          · rename_i o ek
            split at p
            · rename_i ho
              obtain ⟨ho, hnk⟩ := ho
              have hkm : k < m.length := (List.getElem?_eq_some_iff.mp ek).1
              have sc := s0.cut s hl hk
              obtain ⟨w, hw, rw'⟩ := s.obj k o ek
              have el2 : (m.take m0.length ++ [o]).length = m0.length + 1 := by rw [List.length_append, el]; rfl
              have eu : u = .ref (ρ' k) := by cases r; rfl
              subst eu
              let ρ2 : Nat → Addr := fun i => if i = m0.length then ρ' k else ρ' i
              have a2 : ∀ i, i < m0.length → ρ2 i = ρ' i := fun i hi => if_neg (Nat.ne_of_lt hi)
              have a3 : ρ2 m0.length = ρ' k := if_pos rfl
              have x2 : Ext W.K ρ m0.length H ρ2 (m0.length + 1) H' := ⟨Nat.le_succ _, fun i hi => (a2 i hi).trans (x.agree i hi), x.tups, x.tupt, x.frame, x.keep, fun i h1 h2 => by
                have e : i = m0.length := by omega
                subst e
                rw [a3]; exact x.fresh k hnk hkm⟩
              have xi : Ext W.K ρ' m0.length H' ρ2 (m0.length) H' := ⟨Nat.le_refl _, a2, fun _ _ z => z, fun _ _ _ z => z, fun _ _ z _ => z, fun _ z => z, fun i h1 h2 => absurd h2 (Nat.not_lt.mpr h1)⟩
              have up : ∀ {a b}, RepO W ρ2 m0.length H' a b → RepO W ρ2 (m0.length + 1) H' a b := fun {a b} q => q.low (Ob.under_mono (Nat.le_succ _) _ q.under)
              refine p ρ2 H' (.ref (ρ' k)) (by rw [el2]; exact x2) ⟨fun i j hi hj e => ?_, fun i ob q => ?_⟩ ?_
              · rw [el2] at hi hj
                by_cases h1 : i = m0.length
                · by_cases h2 : j = m0.length
                  · omega
                  · exfalso
                    rw [h1, a3, a2 j (by omega)] at e
                    have := s.inj k j hkm (by omega) e
                    omega
                · by_cases h2 : j = m0.length
                  · exfalso
                    rw [h2, a3, a2 i (by omega)] at e
                    have := s.inj i k (by omega) hkm e
                    omega
                  · rw [a2 i (by omega), a2 j (by omega)] at e
                    exact s.inj i j (by omega) (by omega) e
              · rw [el2]
                by_cases h1 : i < m0.length
                · rw [List.getElem?_append_left (by rw [el]; exact h1)] at q
                  obtain ⟨z, b1, b2⟩ := sc.obj i ob q
                  rw [el] at b2
                  exact ⟨z, by rw [a2 i h1]; exact b1, up (b2.ext xi)⟩
                · have h2 : i = m0.length := by
                    have := (List.getElem?_eq_some_iff.mp q).1
                    omega
                  subst h2
                  rw [List.getElem?_append_right (by rw [el]; exact Nat.le_refl _), el, Nat.sub_self] at q
                  cases q
                  exact ⟨w, by rw [a3]; exact hw, up ((rw'.low ho).ext xi)⟩
              · rw [← a3, el2]
                exact .ref (Nat.lt_succ_self _)
            · exact p ρ' H' u x s r
          · exact p ρ' H' u x s r
        · exact p ρ' H' u x s r
    · exact p ρ' H' u x s r
end
end Py

namespace Py
open PySem PySem.Spec PyProof.Rows L2

section
variable {X : Cx} {W : Wd} {wx : WX} {a b c e : Expr} {fa fb fc f : Loc → Mem → Res Val} {pos : Pos}

/-- an expression and its test -/
structure SB (X : Cx) (W : Wd) (wx : WX) (e : Expr) (f : Loc → Mem → Res Val) : Prop where
  ve : SE X W wx e f
  te : ST X W wx e f

theorem SB.plain (hW : W.K = X.K) (h : SE X W wx e f) (he : ∀ whole, isTrue e X.env whole = (do let v ← whole; standAt e.pos; holding [v] (truthy v))) : SB X W wx e f := by
  refine ⟨h, ?_⟩
  obtain ⟨t, pe, q⟩ := h.ex
  refine ⟨_, pt_truth pe he, fun σ H ρ l m Q ss s p => ?_⟩
  refine q σ H ρ l m _ ss s ?_
  cases r : f l m with
  | ok v m1 =>
    rw [r] at p
    obtain ⟨k, e1, p⟩ := p
    intro ρ' H' u x s' r'
    exact ⟨k, truth_of hW s' r' e1, p ρ' H' x s'⟩
  | exc _ _ _ => rw [r] at p; exact p
  | err => rw [r] at p; exact p

theorem se_of {t : TE} {v : Val} {u : V} (h : PE X e t) (ht : ∀ σ H Q, Q u H → t σ H Q) (r : ∀ ρ n H, Rep W.K ρ n H v u) : SE X W wx e (fun _ m => .ok v m) :=
  ⟨t, h, fun σ H ρ l m Q ss s p => ht σ H Q (p ρ H u Ext.refl s (r _ _ _))⟩
theorem se_var {i : Nat} {x : PySem.Str} (hN : X.N[i]? = some x) (hv : Vis X.env.scope x) (hd : (x == ("__debug__" : PySem.Str)) = false) (hc : (x == ("__classdict__" : PySem.Str)) = false) :
    SE X W wx (.Name x pos) (fun l m => match l[i]? with
      | some (some v) => .ok v m
      | _ => .err) := by
  refine ⟨_, pe_var hN hv hd hc, fun σ H ρ l m Q ss s p => ?_⟩
  split at p
  · rename_i v e
    obtain ⟨u, e1, r⟩ := ss.get i v e
    exact ⟨u, e1, p ρ H u Ext.refl s r⟩
  · exact p.elim

theorem se_bin (hW : W.K = X.K) (o : BOp) (ha : SE X W wx a fa) (hb : SE X W wx b fb) :
    SE X W wx (.BinOp a (opOf o) b pos) (fun l m => (fa l m).bind fun x m1 => (fb l m1).bind fun y m2 => binop o x y m2) := by
  obtain ⟨ta, pa, qa⟩ := ha.ex
  obtain ⟨tb, pb, qb⟩ := hb.ex
  refine ⟨_, pe_op (op_bin hW o) pa pb, fun σ H ρ l m Q ss s p => ?_⟩
  refine qa σ H ρ l m _ ss s ((Post.bind ss p).mono fun u H1 ⟨x, m1, ρ1, A, p1⟩ => ?_)
  refine qb σ H1 ρ1 l m1 _ A.ss A.sim ((Post.bind A.ss p1).mono fun w H2 ⟨y, m2, ρ2, B, p2⟩ => ?_)
  exact ⟨ρ2, m2, x, y, B.sim, A.rep.ext B.ext, B.rep, p2.nx fun _ _ _ => binop_nx⟩
theorem se_neg (ha : SE X W wx a fa) : SE X W wx (.UnaryOp .USub a pos) (fun l m => (fa l m).bind fun x m1 => negop x m1) := by
  obtain ⟨ta, pa, qa⟩ := ha.ex
  refine ⟨_, pe_un un_neg pa, fun σ H ρ l m Q ss s p => ?_⟩
  refine qa σ H ρ l m _ ss s ((Post.bind ss p).mono fun u H1 ⟨x, m1, ρ1, A, p1⟩ => ?_)
  have p2 := p1.nx fun _ _ _ => negop_nx
  have r := A.rep
  cases r with
  | int i => exact ⟨i, rfl, A.sim.one p2 (.int _)⟩
  | _ => exact (show False from p2).elim

/-- a comparison's run -/
def cmpR (o : COp) (x y : Val) (m : Mem) : Res Val := match cmpop o x y m with
  | some c => .ok (.bool c) m
  | none => .err
theorem sb_cmp (hW : W.K = X.K) (hu : X.A.units + 65 < cLine) (o : COp) (hm : behindInMarks (copOf o) b = false) (ha : SE X W wx a fa) (hb : SE X W wx b fb) :
    SB X W wx (.Compare a [copOf o] [b] pos) (fun l m => (fa l m).bind fun x m1 => (fb l m1).bind fun y m2 => cmpR o x y m2) := by
  obtain ⟨ta, pa, qa⟩ := ha.ex
  obtain ⟨tb, pb, qb⟩ := hb.ex
  constructor
  · refine ⟨_, pe_cmpR (op_cmp hW hu o) pa pb hm, fun σ H ρ l m Q ss s p => ?_⟩
    refine qa σ H ρ l m _ ss s ((Post.bind ss p).mono fun u H1 ⟨x, m1, ρ1, A, p1⟩ => ?_)
    refine qb σ H1 ρ1 l m1 _ A.ss A.sim ((Post.bind A.ss p1).mono fun w H2 ⟨y, m2, ρ2, B, p2⟩ => ?_)
    unfold cmpR at p2
    split at p2
    · rename_i c ec
      exact ⟨ρ2, m2, x, y, c, B.sim, A.rep.ext B.ext, B.rep, ec, B.sim.one p2 (.bool c)⟩
    · exact p2.elim
  · refine ⟨_, pt_cmpR (op_cmp hW hu o) pa pb hm, fun σ H ρ l m Q ss s p => ?_⟩
    refine qa σ H ρ l m _ ss s ((Post.bindT ss p).mono fun u H1 ⟨x, m1, ρ1, A, p1⟩ => ?_)
    refine qb σ H1 ρ1 l m1 _ A.ss A.sim ((Post.bindT A.ss p1).mono fun w H2 ⟨y, m2, ρ2, B, p2⟩ => ?_)
    unfold cmpR at p2
    split at p2
    · rename_i c ec
      obtain ⟨k, e1, p3⟩ := p2
      cases e1
      exact ⟨ρ2, m2, x, y, c, B.sim, A.rep.ext B.ext, B.rep, ec, c, rfl, p3 ρ2 H2 Ext.refl B.sim⟩
    · exact p2.elim
def chainR (o p : COp) (x y : Val) (fc : Mem → Res Val) (m : Mem) : Res Val := match cmpop o x y m with
  | some true => (fc m).bind fun z m3 => cmpR p y z m3
  | some false => .ok (.bool false) m
  | none => .err
theorem sb_chain (hW : W.K = X.K) (hu : X.A.units + 65 < cLine) (o p : COp) (hm : lastMarks [copOf o, copOf p] [b, c] = false) (ha : SE X W wx a fa) (hb : SE X W wx b fb) (hc : SE X W wx c fc) :
    SB X W wx (.Compare a [copOf o, copOf p] [b, c] pos) (fun l m => (fa l m).bind fun x m1 => (fb l m1).bind fun y m2 => chainR o p x y (fc l) m2) := by
  obtain ⟨ta, pa, qa⟩ := ha.ex
  obtain ⟨tb, pb, qb⟩ := hb.ex
  obtain ⟨tc, pc, qc⟩ := hc.ex
  constructor
  · refine ⟨_, pe_chain (op_cmp hW hu o) (op_cmp hW hu p) pa pb pc hm, fun σ H ρ l m Q ss s p => ?_⟩
    refine qa σ H ρ l m _ ss s ((Post.bind ss p).mono fun u H1 ⟨x, m1, ρ1, A, p1⟩ => ?_)
    refine qb σ H1 ρ1 l m1 _ A.ss A.sim ((Post.bind A.ss p1).mono fun w H2 ⟨y, m2, ρ2, B, p2⟩ => ?_)
    unfold chainR at p2
    split at p2
    · rename_i ec
      refine ⟨ρ2, m2, x, y, true, B.sim, A.rep.ext B.ext, B.rep, ec, true, rfl, ?_⟩
      rw [if_pos rfl]
      refine qc σ H2 ρ2 l m2 _ B.ss B.sim ((Post.bind B.ss p2).mono fun w3 H3 ⟨z, m3, ρ3, C, p3⟩ => ?_)
      unfold cmpR at p3
      split at p3
      · rename_i d ed
        exact ⟨ρ3, m3, y, z, d, C.sim, B.rep.ext C.ext, C.rep, ed, C.sim.one p3 (.bool d)⟩
      · exact p3.elim
    · rename_i ec
      refine ⟨ρ2, m2, x, y, false, B.sim, A.rep.ext B.ext, B.rep, ec, false, rfl, ?_⟩
      rw [if_neg (by decide)]
      exact B.sim.one p2 (.bool false)
    · exact p2.elim
  · refine ⟨_, pt_chain (op_cmp hW hu o) (op_cmp hW hu p) pa pb pc hm, fun σ H ρ l m Q ss s p => ?_⟩
    refine qa σ H ρ l m _ ss s ((Post.bindT ss p).mono fun u H1 ⟨x, m1, ρ1, A, p1⟩ => ?_)
    refine qb σ H1 ρ1 l m1 _ A.ss A.sim ((Post.bindT A.ss p1).mono fun w H2 ⟨y, m2, ρ2, B, p2⟩ => ?_)
    unfold chainR at p2
    split at p2
    · rename_i ec
      refine ⟨ρ2, m2, x, y, true, B.sim, A.rep.ext B.ext, B.rep, ec, true, rfl, ?_⟩
      rw [if_pos rfl]
      refine qc σ H2 ρ2 l m2 _ B.ss B.sim ((Post.bindT B.ss p2).mono fun w3 H3 ⟨z, m3, ρ3, C, p3⟩ => ?_)
      unfold cmpR at p3
      split at p3
      · rename_i d ed
        obtain ⟨k, e1, p4⟩ := p3
        cases e1
        exact ⟨ρ3, m3, y, z, d, C.sim, B.rep.ext C.ext, C.rep, ed, d, rfl, p4 ρ3 H3 Ext.refl C.sim⟩
      · exact p3.elim
    · rename_i ec
      obtain ⟨k, e1, p4⟩ := p2
      cases e1
      refine ⟨ρ2, m2, x, y, false, B.sim, A.rep.ext B.ext, B.rep, ec, false, rfl, ?_⟩
      rw [if_neg (by decide)]
      exact ⟨false, rfl, p4 ρ2 H2 Ext.refl B.sim⟩
    · exact p2.elim

/-! and, or, not -/
def andR (x : Val) (fb : Mem → Res Val) (m : Mem) : Res Val := match x with
  | .bool true => fb m
  | .bool false => .ok (.bool false) m
  | _ => .err
def orR (x : Val) (fb : Mem → Res Val) (m : Mem) : Res Val := match x with
  | .bool false => fb m
  | .bool true => .ok (.bool true) m
  | _ => .err
def notR (x : Val) (m : Mem) : Res Val := match x with
  | .bool b => .ok (.bool (!b)) m
  | _ => .err
/-- an and's or or's rest: as a value and as a test whatever its whole is -/
structure SW (X : Cx) (W : Wd) (wx : WX) (e : Expr) (f : Loc → Mem → Res Val) : Prop where
  ve : SE X W wx e f
  te : ∃ t : TT, PW X e t ∧ ∀ (σ : L2.St) (H : Hp) (ρ : Nat → Addr) (l : Loc) (m : Mem) (Q : Bool → Hp → Prop), SimS W.K ρ m.length H l σ → Sim W ρ m H → PostT W wx σ ρ m.length H (f l m) Q → t σ H Q
theorem SW.sb (h : SW X W wx e f) : SB X W wx e f := ⟨h.ve, let ⟨t, p, q⟩ := h.te; ⟨t, p.pt, q⟩⟩
theorem sw_and1 (h : SB X W wx a fa) : SW X W wx (.BoolOp .And [a] pos) fa := by
  obtain ⟨ta, pa, qa⟩ := h.ve.ex
  obtain ⟨tt, pt, qt⟩ := h.te.ex
  exact ⟨⟨ta, pe_one pa, qa⟩, tt, pw_and1 pt, qt⟩
theorem sw_or1 (h : SB X W wx a fa) : SW X W wx (.BoolOp .Or [a] pos) fa := by
  obtain ⟨ta, pa, qa⟩ := h.ve.ex
  obtain ⟨tt, pt, qt⟩ := h.te.ex
  exact ⟨⟨ta, pe_one pa, qa⟩, tt, pw_or1 pt, qt⟩
theorem boolT {ρ : Nat → Addr} {n : Nat} {H : Hp} {σ : L2.St} {l : Loc} {r : Res Val} {g : Val → Mem → Res Val} {Q Q' : Bool → Hp → Prop} (ss : SimS W.K ρ n H l σ) (p : PostT W wx σ ρ n H (r.bind g) Q)
    (hb : ∀ v m, g v m ≠ .err → ∃ b, v = .bool b) (h : ∀ b m1 ρ1 H1, SimS W.K ρ1 m1.length H1 l σ → Sim W ρ1 m1 H1 → PostT W wx σ ρ1 m1.length H1 (g (.bool b) m1) Q → Q' b H1) : PostT W wx σ ρ n H r Q' := by
  cases r with
  | ok v m =>
    have p' : PostT W wx σ ρ n H (g v m) Q := p
    have ne : g v m ≠ .err := fun e => by rw [e] at p'; exact p'
    obtain ⟨b, e⟩ := hb v m ne
    subst e
    exact ⟨b, rfl, fun ρ' H' x s => h b m ρ' H' (ss.ext x) s (p'.ext x)⟩
  | exc _ _ _ => exact p
  | err => exact p
theorem sw_and {rest : List Expr} (ha : SB X W wx a fa) (hb : SW X W wx (.BoolOp .And (b :: rest) pos) fb) :
    SW X W wx (.BoolOp .And (a :: b :: rest) pos) (fun l m => (fa l m).bind fun x m1 => andR x (fb l) m1) := by
  obtain ⟨ta, pa, qa⟩ := ha.ve.ex
  obtain ⟨tt, pt, qt⟩ := ha.te.ex
  obtain ⟨tb, pb, qb⟩ := hb.ve.ex
  obtain ⟨tw, pw, qw⟩ := hb.te
  refine ⟨⟨_, pe_and pa pb, fun σ H ρ l m Q ss s p => ?_⟩, _, pw_and pt pw, fun σ H ρ l m Q ss s p => ?_⟩
  · refine qa σ H ρ l m _ ss s ((Post.bind ss p).mono fun u H1 ⟨x, m1, ρ1, A, p1⟩ => ?_)
    unfold andR at p1
    have r := A.rep
    split at p1
    · cases r
      exact ⟨true, rfl, by rw [if_pos rfl]; exact qb σ H1 ρ1 l m1 _ A.ss A.sim p1⟩
    · cases r
      exact ⟨false, rfl, by rw [if_neg (by decide)]; exact A.sim.one p1 (.bool false)⟩
    · exact p1.elim
  · refine qt σ H ρ l m _ ss s (boolT ss p (fun v m ne => ?_) fun b m1 ρ1 H1 ss1 s1 p1 => ?_)
    · unfold andR at ne
      split at ne
      · exact ⟨_, rfl⟩
      · exact ⟨_, rfl⟩
      · exact absurd rfl ne
    · cases b with
      | true => rw [if_pos rfl]; exact qw σ H1 ρ1 l m1 _ ss1 s1 p1
      | false =>
        rw [if_neg (by decide)]
        obtain ⟨k, e1, p2⟩ := p1
        cases e1
        exact p2 ρ1 H1 Ext.refl s1
theorem sw_or {rest : List Expr} (ha : SB X W wx a fa) (hb : SW X W wx (.BoolOp .Or (b :: rest) pos) fb) :
    SW X W wx (.BoolOp .Or (a :: b :: rest) pos) (fun l m => (fa l m).bind fun x m1 => orR x (fb l) m1) := by
  obtain ⟨ta, pa, qa⟩ := ha.ve.ex
  obtain ⟨tt, pt, qt⟩ := ha.te.ex
  obtain ⟨tb, pb, qb⟩ := hb.ve.ex
  obtain ⟨tw, pw, qw⟩ := hb.te
  refine ⟨⟨_, pe_or pa pb, fun σ H ρ l m Q ss s p => ?_⟩, _, pw_or pt pw, fun σ H ρ l m Q ss s p => ?_⟩
  · refine qa σ H ρ l m _ ss s ((Post.bind ss p).mono fun u H1 ⟨x, m1, ρ1, A, p1⟩ => ?_)
    unfold orR at p1
    have r := A.rep
    split at p1
    · cases r
      exact ⟨false, rfl, by rw [if_neg (by decide)]; exact qb σ H1 ρ1 l m1 _ A.ss A.sim p1⟩
    · cases r
      exact ⟨true, rfl, by rw [if_pos rfl]; exact A.sim.one p1 (.bool true)⟩
    · exact p1.elim
  · refine qt σ H ρ l m _ ss s (boolT ss p (fun v m ne => ?_) fun b m1 ρ1 H1 ss1 s1 p1 => ?_)
    · unfold orR at ne
      split at ne
      · exact ⟨_, rfl⟩
      · exact ⟨_, rfl⟩
      · exact absurd rfl ne
    · cases b with
      | false => rw [if_neg (by decide)]; exact qw σ H1 ρ1 l m1 _ ss1 s1 p1
      | true =>
        rw [if_pos rfl]
        obtain ⟨k, e1, p2⟩ := p1
        cases e1
        exact p2 ρ1 H1 Ext.refl s1
theorem sb_not (ha : SB X W wx a fa) : SB X W wx (.UnaryOp .Not a pos) (fun l m => (fa l m).bind fun x m1 => notR x m1) := by
  obtain ⟨ta, pa, qa⟩ := ha.ve.ex
  obtain ⟨tt, pt, qt⟩ := ha.te.ex
  refine ⟨⟨_, pe_not pa, fun σ H ρ l m Q ss s p => ?_⟩, ⟨_, pt_not pt, fun σ H ρ l m Q ss s p => ?_⟩⟩
  · refine qa σ H ρ l m _ ss s ((Post.bind ss p).mono fun u H1 ⟨x, m1, ρ1, A, p1⟩ => ?_)
    unfold notR at p1
    have r := A.rep
    split at p1
    · cases r
      exact ⟨_, rfl, A.sim.one p1 (.bool _)⟩
    · exact p1.elim
  · refine qt σ H ρ l m _ ss s (boolT ss p (fun v m ne => ?_) fun b m1 ρ1 H1 ss1 s1 p1 => ?_)
    · unfold notR at ne
      split at ne
      · exact ⟨_, rfl⟩
      · exact absurd rfl ne
    · obtain ⟨k, e1, p2⟩ := p1
      cases e1
      exact p2 ρ1 H1 Ext.refl s1
theorem isTrue_ifExp_T {t1 t2 : TT} {tc : TT} (hc : PT X c tc) (ha : PT X a t1) (hb : PT X b t2) : PT X (.IfExp c a b pos) (fun σ H Q => tc σ H fun k H1 => if k = true then t1 σ H1 Q else t2 σ H1 Q) := by
  refine ⟨fun pins s σ H Q I h => ?_⟩
  show wpAny _ _ (do if ← isTrue c X.env (eval c X.env) then isTrue a X.env (eval a X.env) else isTrue b X.env (eval b X.env)) _ _ _
  refine wpAny_bind (thn (hc.run pins s σ H _ I h) fun d s1 ⟨H1, I1, q1⟩ => ?_)
  cases d with
  | true => exact ha.run pins s1 σ H1 Q I1 q1
  | false => exact hb.run pins s1 σ H1 Q I1 q1
def iteR (x : Val) (fa fb : Mem → Res Val) (m : Mem) : Res Val := match truth m x with
  | some true => fa m
  | some false => fb m
  | none => .err
theorem iteP {ρ : Nat → Addr} {n : Nat} {H : Hp} {σ : L2.St} {l : Loc} {r : Res Val} {g h : Mem → Res Val} {Q : VK} {Q' : Bool → Hp → Prop} (ss : SimS W.K ρ n H l σ) (p : Post W wx σ ρ n H (r.bind fun x m1 => iteR x g h m1) Q)
    (k : ∀ b m1 ρ1 H1, SimS W.K ρ1 m1.length H1 l σ → Sim W ρ1 m1 H1 → Post W wx σ ρ1 m1.length H1 (if b = true then g m1 else h m1) Q → Q' b H1) : PostT W wx σ ρ n H r Q' := by
  cases r with
  | ok v m =>
    have p' : Post W wx σ ρ n H (iteR v g h m) Q := p
    unfold iteR at p'
    split at p'
    · rename_i e; exact ⟨true, e, fun ρ' H' x s => k true m ρ' H' (ss.ext x) s (by rw [if_pos rfl]; exact p'.ext x)⟩
    · rename_i e; exact ⟨false, e, fun ρ' H' x s => k false m ρ' H' (ss.ext x) s (by rw [if_neg (by decide)]; exact p'.ext x)⟩
    · exact p'.elim
  | exc _ _ _ => exact p
  | err => exact p
theorem iteT' {ρ : Nat → Addr} {n : Nat} {H : Hp} {σ : L2.St} {l : Loc} {r : Res Val} {g h : Mem → Res Val} {Q : Bool → Hp → Prop} {Q' : Bool → Hp → Prop} (ss : SimS W.K ρ n H l σ) (p : PostT W wx σ ρ n H (r.bind fun x m1 => iteR x g h m1) Q)
    (k : ∀ b m1 ρ1 H1, SimS W.K ρ1 m1.length H1 l σ → Sim W ρ1 m1 H1 → PostT W wx σ ρ1 m1.length H1 (if b = true then g m1 else h m1) Q → Q' b H1) : PostT W wx σ ρ n H r Q' := by
  cases r with
  | ok v m =>
    have p' : PostT W wx σ ρ n H (iteR v g h m) Q := p
    unfold iteR at p'
    split at p'
    · rename_i e; exact ⟨true, e, fun ρ' H' x s => k true m ρ' H' (ss.ext x) s (by rw [if_pos rfl]; exact p'.ext x)⟩
    · rename_i e; exact ⟨false, e, fun ρ' H' x s => k false m ρ' H' (ss.ext x) s (by rw [if_neg (by decide)]; exact p'.ext x)⟩
    · exact p'.elim
  | exc _ _ _ => exact p
  | err => exact p
theorem sb_ite (hc : SB X W wx c fc) (ha : SB X W wx a fa) (hb : SB X W wx b fb) :
    SB X W wx (.IfExp c a b pos) (fun l m => (fc l m).bind fun x m1 => iteR x (fa l) (fb l) m1) := by
  obtain ⟨tc, pc, qc⟩ := hc.te.ex
  obtain ⟨ta, pa, qa⟩ := ha.ve.ex
  obtain ⟨tb, pb, qb⟩ := hb.ve.ex
  obtain ⟨ua, va, wa⟩ := ha.te.ex
  obtain ⟨ub, vb, wb⟩ := hb.te.ex
  refine ⟨⟨_, pe_ifExp pc pa pb, fun σ H ρ l m Q ss s p => ?_⟩, ⟨_, isTrue_ifExp_T pc va vb, fun σ H ρ l m Q ss s p => ?_⟩⟩
  · refine qc σ H ρ l m _ ss s (iteP ss p fun b m1 ρ1 H1 ss1 s1 p1 => ?_)
    cases b with
    | true => exact qa σ H1 ρ1 l m1 _ ss1 s1 p1
    | false => exact qb σ H1 ρ1 l m1 _ ss1 s1 p1
  · refine qc σ H ρ l m _ ss s (iteT' ss p fun b m1 ρ1 H1 ss1 s1 p1 => ?_)
    cases b with
    | true => exact wa σ H1 ρ1 l m1 _ ss1 s1 p1
    | false => exact wb σ H1 ρ1 l m1 _ ss1 s1 p1

/-! ### lists of expressions -/
theorem sa_nil : SA X W wx [] (fun _ m => .ok [] m) := ⟨_, pa_nil, fun σ H ρ l m Q ss s p => p ρ H [] Ext.refl s .nil⟩
theorem sa_cons {es : List Expr} {fr : Loc → Mem → Res (List Val)} (ha : SE X W wx a fa) (hr : SA X W wx es fr) (hs : starEach (a :: es) X.env = (false, eval a X.env) :: starEach es X.env) :
    SA X W wx (a :: es) (fun l m => (fa l m).bind fun x m1 => (fr l m1).bind fun xs m2 => .ok (x :: xs) m2) := by
  obtain ⟨ta, pa, qa⟩ := ha.ex
  obtain ⟨tr, pr, qr⟩ := hr.ex
  refine ⟨_, pa_cons pa pr hs, fun σ H ρ l m Q ss s p => ?_⟩
  refine qa σ H ρ l m _ ss s ((Post.bindL ss p).mono fun u H1 ⟨x, m1, ρ1, A, p1⟩ => ?_)
  refine qr σ H1 ρ1 l m1 _ A.ss A.sim ((PostL.bindL A.ss p1).mono fun us H2 ⟨xs, m2, ρ2, B, p2⟩ => ?_)
  exact p2 ρ2 H2 _ Ext.refl B.sim (.cons (A.rep.ext B.ext) B.rep)
theorem se_tup {es : List Expr} {k : Nat} {fr : Loc → Mem → Res (List Val)} (hr : SA X W wx es fr) : SE X W wx (.Tuple es k pos) (fun l m => (fr l m).bind fun vs m1 => if vs.length ≤ SZ then .ok (.tup vs) m1 else .err) := by
  obtain ⟨tr, pr, qr⟩ := hr.ex
  refine ⟨_, pe_tup pr, fun σ H ρ l m Q ss s p => ?_⟩
  refine qr σ H ρ l m _ ss s ((PostL.bind ss p).mono fun us H2 ⟨xs, m2, ρ2, B, p2⟩ => ?_)
  split at p2
  · rename_i h
    exact ⟨by rw [← B.rep.length, ← sz_line]; exact h, B.sim.tupn p2 B.rep⟩
  · exact p2.elim
theorem se_lst {es : List Expr} {fr : Loc → Mem → Res (List Val)} (hr : SA X W wx es fr) : SE X W wx (.List es pos) (fun l m => (fr l m).bind fun vs m1 => if vs.length ≤ SZ then .ok (.ref m1.length) (m1 ++ [.list vs]) else .err) := by
  obtain ⟨tr, pr, qr⟩ := hr.ex
  refine ⟨_, pe_lst pr, fun σ H ρ l m Q ss s p => ?_⟩
  refine qr σ H ρ l m _ ss s ((PostL.bind ss p).mono fun us H2 ⟨xs, m2, ρ2, B, p2⟩ => ?_)
  split at p2
  · rename_i h
    exact ⟨by rw [← B.rep.length, ← sz_line]; exact h, B.sim.lst p2 B.rep⟩
  · exact p2.elim

/-! ### subscripts, slices -/
theorem se_idx (hW : W.K = X.K) (ha : SE X W wx a fa) (hb : SE X W wx b fb) (hs : PlainIx b) :
    SE X W wx (.Subscript a b pos) (fun l m => (fa l m).bind fun x m1 => (fb l m1).bind fun y m2 => match idxop m2 x y with
      | some v => .ok v m2
      | none => .err) := by
  obtain ⟨ta, pa, qa⟩ := ha.ex
  obtain ⟨tb, pb, qb⟩ := hb.ex
  refine ⟨_, pe_ix (ix_any hW) pa pb hs, fun σ H ρ l m Q ss s p => ?_⟩
  refine qa σ H ρ l m _ ss s ((Post.bind ss p).mono fun u H1 ⟨x, m1, ρ1, A, p1⟩ => ?_)
  refine qb σ H1 ρ1 l m1 _ A.ss A.sim ((Post.bind A.ss p1).mono fun w H2 ⟨y, m2, ρ2, B, p2⟩ => ?_)
  split at p2
  · rename_i v ev
    exact ⟨ρ2, m2, x, y, v, B.sim, A.rep.ext B.ext, B.rep, ev, fun z rz => B.sim.one p2 rz⟩
  · exact p2.elim
end
end Py

namespace Py
open PySem PySem.Spec PyProof.Rows L2

section
variable {X : Cx} {W : Wd} {wx : WX} {a b c e o lo hi : Expr} {es : List Expr} {fa fb fc f fo fl fh : Loc → Mem → Res Val} {fr : Loc → Mem → Res (List Val)} {pos p2 : Pos}

/-! ### slices -/
theorem intR_post {σ : L2.St} {ρ : Nat → Addr} {n : Nat} {H : Hp} {v : Val} {m : Mem} {g : Int → Res Val} {Q : VK} (p : Post W wx σ ρ n H (intR v m g) Q) : ∃ i, v = .int i ∧ Post W wx σ ρ n H (g i) Q := by
  unfold intR at p
  split at p
  · exact ⟨_, rfl, p⟩
  · exact p.elim
theorem int_of {K : PySem.W.Frag} {ρ : Nat → Addr} {n : Nat} {H : Hp} {i : Int} {u : V} (r : Rep K ρ n H (.int i) u) : u = .int i := by cases r; rfl
theorem se_sliceB (hW : W.K = X.K) (ha : SE X W wx a fa) (hl : SE X W wx lo fl) (hh : SE X W wx hi fh) :
    SE X W wx (.Subscript a (.Slice (some lo) (some hi) none p2) pos) (fun l m => (fa l m).bind fun x m1 => (fl l m1).bind fun p m2 => intR p m2 fun i => (fh l m2).bind fun q m3 => intR q m3 fun j => sliceop m3 x (some i) (some j)) := by
  obtain ⟨ta, pa, qa⟩ := ha.ex
  obtain ⟨tl, pl, ql⟩ := hl.ex
  obtain ⟨th, ph, qh⟩ := hh.ex
  refine ⟨_, pe_slice (sl_any hW) pa (po_some pl) (po_some ph), fun σ H ρ l m Q ss s p => ?_⟩
  refine qa σ H ρ l m _ ss s ((Post.bind ss p).mono fun u H1 ⟨x, m1, ρ1, A, p1⟩ => ?_)
  refine ql σ H1 ρ1 l m1 _ A.ss A.sim ((Post.bind A.ss p1).mono fun w H2 ⟨y, m2, ρ2, B, p2⟩ => ?_)
  obtain ⟨i, e1, p2⟩ := intR_post p2
  subst e1
  refine ⟨i, int_of B.rep, ?_⟩
  refine qh σ H2 ρ2 l m2 _ B.ss B.sim ((Post.bind B.ss p2).mono fun z H3 ⟨y3, m3, ρ3, C, p3⟩ => ?_)
  obtain ⟨j, e3, p3⟩ := intR_post p3
  subst e3
  exact ⟨j, int_of C.rep, ρ3, m3, x, C.sim, (A.rep.ext B.ext).ext C.ext, p3.nx fun _ _ _ => sliceop_nx⟩
theorem se_sliceL (hW : W.K = X.K) (ha : SE X W wx a fa) (hl : SE X W wx lo fl) :
    SE X W wx (.Subscript a (.Slice (some lo) none none p2) pos) (fun l m => (fa l m).bind fun x m1 => (fl l m1).bind fun p m2 => intR p m2 fun i => sliceop m2 x (some i) none) := by
  obtain ⟨ta, pa, qa⟩ := ha.ex
  obtain ⟨tl, pl, ql⟩ := hl.ex
  refine ⟨_, pe_slice (sl_any hW) pa (po_some pl) po_none, fun σ H ρ l m Q ss s p => ?_⟩
  refine qa σ H ρ l m _ ss s ((Post.bind ss p).mono fun u H1 ⟨x, m1, ρ1, A, p1⟩ => ?_)
  refine ql σ H1 ρ1 l m1 _ A.ss A.sim ((Post.bind A.ss p1).mono fun w H2 ⟨y, m2, ρ2, B, p2⟩ => ?_)
  obtain ⟨i, e1, p2⟩ := intR_post p2
  subst e1
  exact ⟨i, int_of B.rep, ρ2, m2, x, B.sim, A.rep.ext B.ext, p2.nx fun _ _ _ => sliceop_nx⟩
theorem se_sliceH (hW : W.K = X.K) (ha : SE X W wx a fa) (hh : SE X W wx hi fh) :
    SE X W wx (.Subscript a (.Slice none (some hi) none p2) pos) (fun l m => (fa l m).bind fun x m1 => (fh l m1).bind fun q m3 => intR q m3 fun j => sliceop m3 x none (some j)) := by
  obtain ⟨ta, pa, qa⟩ := ha.ex
  obtain ⟨th, ph, qh⟩ := hh.ex
  refine ⟨_, pe_slice (sl_any hW) pa po_none (po_some ph), fun σ H ρ l m Q ss s p => ?_⟩
  refine qa σ H ρ l m _ ss s ((Post.bind ss p).mono fun u H1 ⟨x, m1, ρ1, A, p1⟩ => ?_)
  refine qh σ H1 ρ1 l m1 _ A.ss A.sim ((Post.bind A.ss p1).mono fun w H2 ⟨y, m2, ρ2, B, p2⟩ => ?_)
  obtain ⟨i, e1, p2⟩ := intR_post p2
  subst e1
  exact ⟨i, int_of B.rep, ρ2, m2, x, B.sim, A.rep.ext B.ext, p2.nx fun _ _ _ => sliceop_nx⟩

/-! ### attributes -/
theorem Sim.inst {ρ : Nat → Addr} {m : Mem} {H : Hp} {k : Nat} {c0 : PySem.Str} {fs : List (PySem.Str × Val)} (s : Sim W ρ m H) (h : m[k]? = some (.inst c0 fs)) :
    ∃ dx us, H (ρ k) = some (.ins (W.cad c0) dx us) ∧ FldR W.K ρ m.length H fs us ∧ Cls W.K (W.cad c0) ∧ (∀ f u, us.lookup f = some u → NoAttr W.K (W.cad c0) f) := by
  obtain ⟨u, a, r⟩ := s.obj k _ h
  cases r with
  | inst h a' b => exact ⟨_, _, a, h, a', b⟩
theorem FldR.get {K : PySem.W.Frag} {ρ : Nat → Addr} {n : Nat} {H : Hp} {fs us} (h : FldR K ρ n H fs us) (f : PySem.Str) : (∀ v, fs.lookup f = some v → ∃ u, us.lookup f = some u ∧ Rep K ρ n H v u) ∧ (fs.lookup f = none → us.lookup f = none) := by
  induction h with
  | nil => exact ⟨fun v e => (nomatch e), fun _ => rfl⟩
  | @cons g x u xs ys h t ih =>
    by_cases e : f = g
    · subst e
      simp only [List.lookup, beq_self_eq_true]
      exact ⟨fun v e => by cases e; exact ⟨u, rfl, h⟩, fun e => by cases e⟩
    · have hb : (f == g) = false := beq_eq_false_iff_ne.mpr e
      simp only [List.lookup, hb]
      exact ih
theorem FldR.put {K : PySem.W.Frag} {ρ : Nat → Addr} {n : Nat} {H : Hp} {fs us} (h : FldR K ρ n H fs us) {f : PySem.Str} {v : Val} {u : V} (r : Rep K ρ n H v u) : FldR K ρ n H (putAttr f v fs) (putF f u us) := by
  induction h with
  | nil => exact .cons r .nil
  | @cons g x y xs ys h t ih =>
    unfold putAttr putF
    by_cases e : g = f
    · rw [if_pos e, if_pos e]; exact .cons r t
    · rw [if_neg e, if_neg e]; exact .cons h ih
theorem FldR.length {K : PySem.W.Frag} {ρ : Nat → Addr} {n : Nat} {H : Hp} {fs us} (h : FldR K ρ n H fs us) : fs.length = us.length := by
  induction h with
  | nil => rfl
  | cons _ _ ih => exact congrArg Nat.succ ih
def attrR (f : PySem.Str) (x : Val) (m1 : Mem) : Res Val := match x with
  | .ref k => match m1[k]? with
    | some (.inst _ fs) => match fs.lookup f with
      | some v => .ok v m1
      | none => .err
    | _ => .err
  | _ => .err
theorem se_attr (hW : W.K = X.K) {fn : PySem.Str} (hb : attributeBase o fn X.env (eval o X.env) = eval o X.env) (ho : SE X W wx o fo) : SE X W wx (.Attribute o fn pos) (fun l m => (fo l m).bind fun x m1 => attrR fn x m1) := by
  obtain ⟨to, po, qo⟩ := ho.ex
  refine ⟨_, pe_fld po hb, fun σ H ρ l m Q ss s p => ?_⟩
  refine qo σ H ρ l m _ ss s ((Post.bind ss p).mono fun u H1 ⟨x, m1, ρ1, A, p1⟩ => ?_)
  unfold attrR at p1
  split at p1
  · rename_i k
    split at p1
    · rename_i c0 fs ek
      split at p1
      · rename_i v ev
        obtain ⟨dx, us, q1, q2, q3, q4⟩ := A.sim.inst ek
        obtain ⟨w, w1, w2⟩ := (q2.get fn).1 v ev
        have r := A.rep
        cases r
        exact ⟨_, _, dx, us, w, rfl, q1, by rw [← hW]; exact q3, by rw [← hW]; exact q4 fn w w1, w1, A.sim.one p1 w2⟩
      · exact p1.elim
    · exact p1.elim
  · exact p1.elim

/-! ### calls -/
def spC (W : Wd) (C : Calls) (f : PySem.Str) : Sp := fun vs H Q E => ∃ ρ m xs, Sim W ρ m H ∧ RepL W.K ρ m.length H xs vs ∧ Post W (fun cls d _ H => E cls d H) [] ρ m.length H (C f xs m) Q
theorem post_call {σ : L2.St} {ρ : Nat → Addr} {n : Nat} {H : Hp} {r : Res Val} {Q : VK} (p : Post W wx σ ρ n H r Q) : Post W (fun cls d _ H => WE wx σ cls d H) [] ρ n H r Q := by
  cases r with
  | ok v m => exact p
  | exc c fs m => exact p
  | err => exact p

variable {k : Nat} {f0 fa0 C0 : Addr} {fd : FuncData} {ps : List PySem.Str} {fn : PySem.Str} {Cc : Calls} {p apos : Pos}
theorem se_call (F : FnOk X.prog X.w X.K X.mg X.base (L2.CX X.prog X.w) k f0 fd ps (spC W Cc fn)) (hr : Room k X.A) (hg : Gl X fn) (hm : X.mg fn = some (.ref f0)) (hk : PySem.W.keepIn X.K (.ref f0) = true) (hb : Binds X.K fd ps [])
    (tk : Takes X wx) (hdb : (fn == ("__debug__" : PySem.Str)) = false) (he : starEach (e :: es) X.env = (false, eval e X.env) :: starEach es X.env) (hpl : (backTo pos (starEach es X.env)).any (·.1) = false) (ha : SA X W wx (e :: es) fr) :
    SE X W wx (.Call (.Name fn p) (e :: es) [] pos) (fun l m => (fr l m).bind fun vs m1 => Cc fn vs m1) := by
  obtain ⟨ta, pa, qa⟩ := ha.ex
  refine ⟨_, pe_callS F hr hg hm hk hb (fun σ => passAt tk σ) pa hdb he hpl, fun σ H ρ l m Q ss s p => ?_⟩
  refine qa σ H ρ l m _ ss s ((PostL.bind ss p).mono fun us H1 ⟨xs, m1, ρ1, A, p1⟩ => ?_)
  exact ⟨ρ1, m1, xs, A.sim, A.rep, post_call p1⟩
theorem pe_callS0 {CX : CXT} {sp : Sp} {E : L2.St → XK} (F : FnOk X.prog X.w X.K X.mg X.base CX k f0 fd ps sp) (hr : Room k X.A) (hg : Gl X fn) (hm : X.mg fn = some (.ref f0)) (hk : PySem.W.keepIn X.K (.ref f0) = true) (hb : Binds X.K fd ps []) (hx : ∀ σ, PassesAt CX X σ (E σ))
    (hdb : (fn == ("__debug__" : PySem.Str)) = false) : PE X (.Call (.Name fn p) [] [] pos) (tCallS sp E tNil) := by
  refine ⟨fun pins s σ H Q I h => ?_⟩
  refine wpAny_Call_Name_kw (ld_glob I hg hm ?_ hdb)
  exact PySem.W.callWith_K0 I.kIn hk (run_fnS (us := []) F hr hb (hx σ) I .nil h)
theorem se_call0 (F : FnOk X.prog X.w X.K X.mg X.base (L2.CX X.prog X.w) k f0 fd ps (spC W Cc fn)) (hr : Room k X.A) (hg : Gl X fn) (hm : X.mg fn = some (.ref f0)) (hk : PySem.W.keepIn X.K (.ref f0) = true) (hb : Binds X.K fd ps [])
    (tk : Takes X wx) (hdb : (fn == ("__debug__" : PySem.Str)) = false) :
    SE X W wx (.Call (.Name fn p) [] [] pos) (fun l m => (Res.ok ([] : List Val) m).bind fun vs m1 => Cc fn vs m1) := by
  refine ⟨_, pe_callS0 F hr hg hm hk hb (fun σ => passAt tk σ) hdb, fun σ H ρ l m Q ss s p => ?_⟩
  exact ⟨ρ, m, [], s, .nil, post_call p⟩

/-! a method of an instance -/
theorem getmeth_plain {pins : List (Addr × Obj)} {s : Shared} {σ : L2.St} {H : Hp} {Q : Value → Shared → Prop} {to : TE} {mn : PySem.Str} {args : List Expr} (hbase : attributeBase o mn X.env (eval o X.env) = eval o X.env) (hline : (apos.endLine == pos.line) = true)
    (hform : methodCallForm (args.length + ([] : List Keyword).length) (backTo pos (starEach args X.env)) (backToKw pos (keywordEach [] X.env)) = true) (ho : PE X o to) (I : Inv X pins σ H s)
    (h : to σ H fun x H1 => ∃ a C dx fs g, x = .ref a ∧ H1 a = some (.ins C dx fs) ∧ Cls X.K C ∧ Meth X.K C mn g ∧ fs.lookup mn = none ∧
      ∀ s1, Inv X pins σ H1 s1 → wpAny (model X.prog X.w) X.A (callWith pos (.ref g) [.ref a] (backTo pos (starEach args X.env)) (backToKw pos (keywordEach [] X.env))) Q X.xe s1) :
    wpAny (model X.prog X.w) X.A (eval (.Call (.Attribute o mn apos) args [] pos) X.env) Q X.xe s := by
  refine methcall_of (pl := plainOf o X.env) ho I h ?_
  show (do
    let ov ← attributeBase o mn X.env (eval o X.env)
    standAt apos.atName
    methodCall o mn apos pos X.env ov (args.length + ([] : List Keyword).length) (backTo pos (starEach args X.env)) (backToKw pos (keywordEach [] X.env))) = _
  rw [hbase]
  congr 1
  funext ov
  congr 1
  funext _
  exact mcall_line hform hline
/-- the promise of a method, by the instance's class -/
def MethOk (X : Cx) (W : Wd) (Cc : Calls) (k : Nat) (c0 mn q : PySem.Str) : Prop :=
  ∃ g fd ps, Meth X.K (W.cad c0) mn g ∧ FnOk X.prog X.w X.K X.mg X.base (L2.CX X.prog X.w) k g fd ps (spC W Cc q) ∧ Binds X.K fd ps []
def methR (P : Prog) (Cc : Calls) (mn : PySem.Str) (fr : Mem → Res (List Val)) (x : Val) (m1 : Mem) : Res Val := match x with
  | .ref k => match m1[k]? with
    | some (.inst c fs) => match P.meth c mn with
      | some q => if (fs.lookup mn).isNone = true then (fr m1).bind fun vs m2 => Cc q (x :: vs) m2 else .err
      | none => .err
    | _ => .err
  | _ => .err
theorem methR_post {P : Prog} {σ : L2.St} {ρ : Nat → Addr} {n : Nat} {H : Hp} {mn : PySem.Str} {fr : Mem → Res (List Val)} {x : Val} {m1 : Mem} {Q : VK} (p : Post W wx σ ρ n H (methR P Cc mn fr x m1) Q) :
    ∃ k0 c0 fs q, x = .ref k0 ∧ m1[k0]? = some (.inst c0 fs) ∧ P.meth c0 mn = some q ∧ fs.lookup mn = none ∧ Post W wx σ ρ n H ((fr m1).bind fun vs m2 => Cc q (x :: vs) m2) Q := by
  unfold methR at p
  split at p
  · split at p
    · split at p
      · split at p
        · rename_i h
          exact ⟨_, _, _, _, rfl, by assumption, by assumption, Option.isNone_iff_eq_none.mp h, p⟩
        · exact p.elim
      · exact p.elim
    · exact p.elim
  · exact p.elim
theorem se_meth {P : Prog} (hW : W.K = X.K) {mn : PySem.Str} (hbase : attributeBase o mn X.env (eval o X.env) = eval o X.env) (hline : (apos.endLine == pos.line) = true)
    (hform : methodCallForm ((e :: es).length + ([] : List Keyword).length) (backTo pos (starEach (e :: es) X.env)) (backToKw pos (keywordEach [] X.env)) = true)
    (hM : ∀ c0 q, P.meth c0 mn = some q → MethOk X W Cc k c0 mn q) (hr : Room k X.A) (tk : Takes X wx) (he : starEach (e :: es) X.env = (false, eval e X.env) :: starEach es X.env) (hpl : (backTo pos (starEach es X.env)).any (·.1) = false)
    (ho : SE X W wx o fo) (ha : SA X W wx (e :: es) fr) :
    SE X W wx (.Call (.Attribute o mn apos) (e :: es) [] pos) (fun l m => (fo l m).bind fun x m1 => methR P Cc mn (fr l) x m1) := by
  obtain ⟨to, po, qo⟩ := ho.ex
  obtain ⟨ta, pa, qa⟩ := ha.ex
  refine ⟨fun σ H Q => ∀ pins s, Inv X pins σ H s → to σ H fun x H1 => ∃ a C dx fs g, x = .ref a ∧ H1 a = some (.ins C dx fs) ∧ Cls X.K C ∧ Meth X.K C mn g ∧ fs.lookup mn = none ∧
      ∀ s1, Inv X pins σ H1 s1 → wpAny (model X.prog X.w) X.A (callWith pos (.ref g) [.ref a] (backTo pos (starEach (e :: es) X.env)) (backToKw pos (keywordEach [] X.env))) (EP X pins σ Q) X.xe s1, ⟨fun pins s σ H Q I h => getmeth_plain hbase hline hform po I (h pins s I)⟩, fun σ H ρ l m Q ss s p pins s0 I0 => ?_⟩
  refine qo σ H ρ l m _ ss s ((Post.bind ss p).mono fun u H1 ⟨x, m1, ρ1, A, p1⟩ => ?_)
  obtain ⟨k0, c0, fs, q, ex, ek, em, el, p1⟩ := methR_post p1
  subst ex
  obtain ⟨dx, us, q1, q2, q3, q4⟩ := A.sim.inst ek
  obtain ⟨g, fd, ps, M, F, B⟩ := hM c0 q em
  have r := A.rep
  cases r with
  | ref hk0 =>
    refine ⟨_, _, dx, us, g, rfl, q1, by rw [← hW]; exact q3, M, (q2.get mn).2 el, fun s1 I1 => ?_⟩
    refine PySem.W.callWith_K (first := [.ref (ρ1 k0)]) (h₀ := X.base) I1.ok.mod.kin M.kp (thn (pa.run pos pins s1 σ H1 _ I1 (qa σ H1 ρ1 l m1 _ A.ss A.sim (PostL.bind A.ss p1))) fun ws s2 ⟨vs, H2, I2, r2, xs, m2, ρ2, A2, p2⟩ => ⟨I2.kIn, ?_⟩) he hpl
    exact run_fnS (us := .ref (ρ1 k0) :: ws) (vs := .ref (ρ1 k0) :: vs) F hr B (passAt tk σ) I2 (.cons rfl r2) ⟨ρ2, m2, _, A2.sim, .cons (A.rep.ext A2.ext) A2.rep, post_call p2⟩
theorem se_meth0 {P : Prog} (hW : W.K = X.K) {mn : PySem.Str} (hbase : attributeBase o mn X.env (eval o X.env) = eval o X.env) (hline : (apos.endLine == pos.line) = true)
    (hM : ∀ c0 q, P.meth c0 mn = some q → MethOk X W Cc k c0 mn q) (hr : Room k X.A) (tk : Takes X wx) (ho : SE X W wx o fo) :
    SE X W wx (.Call (.Attribute o mn apos) [] [] pos) (fun l m => (fo l m).bind fun x m1 => methR P Cc mn (fun m => .ok [] m) x m1) := by
  obtain ⟨to, po, qo⟩ := ho.ex
  refine ⟨fun σ H Q => ∀ pins s, Inv X pins σ H s → to σ H fun x H1 => ∃ a C dx fs g, x = .ref a ∧ H1 a = some (.ins C dx fs) ∧ Cls X.K C ∧ Meth X.K C mn g ∧ fs.lookup mn = none ∧
      ∀ s1, Inv X pins σ H1 s1 → wpAny (model X.prog X.w) X.A (callWith pos (.ref g) [.ref a] (backTo pos (starEach [] X.env)) (backToKw pos (keywordEach [] X.env))) (EP X pins σ Q) X.xe s1, ⟨fun pins s σ H Q I h => getmeth_plain hbase hline rfl po I (h pins s I)⟩, fun σ H ρ l m Q ss s p pins s0 I0 => ?_⟩
  refine qo σ H ρ l m _ ss s ((Post.bind ss p).mono fun u H1 ⟨x, m1, ρ1, A, p1⟩ => ?_)
  obtain ⟨k0, c0, fs, q, ex, ek, em, el, p1⟩ := methR_post p1
  subst ex
  obtain ⟨dx, us, q1, q2, q3, q4⟩ := A.sim.inst ek
  obtain ⟨g, fd, ps, M, F, B⟩ := hM c0 q em
  have r := A.rep
  cases r with
  | ref hk0 =>
    refine ⟨_, _, dx, us, g, rfl, q1, by rw [← hW]; exact q3, M, (q2.get mn).2 el, fun s1 I1 => ?_⟩
    exact PySem.W.callWith_K0 (first := [.ref (ρ1 k0)]) I1.kIn M.kp (run_fnS (us := [.ref (ρ1 k0)]) (vs := [.ref (ρ1 k0)]) F hr B (passAt tk σ) I1 (.cons rfl .nil) ⟨ρ1, m1, _, A.sim, .cons (.ref hk0) .nil, post_call p1⟩)

/-! builtins -/
theorem se_blt {id : String} {bf : Blt} (hc : CallR X (.builtin id) (rBlt W bf)) (hg : Gl X fn) (hm : X.mg fn = none) (hv : bootBuiltins fn = some (.builtin id)) (hn : fn ≠ "__name__") (hdb : (fn == ("__debug__" : PySem.Str)) = false)
    (he : starEach (e :: es) X.env = (false, eval e X.env) :: starEach es X.env) (hpl : (backTo pos (starEach es X.env)).any (·.1) = false) (ha : SA X W wx (e :: es) fr) :
    SE X W wx (.Call (.Name fn p) (e :: es) [] pos) (fun l m => gc m ((fr l m).bind fun vs m1 => bltop bf vs m1)) := by
  obtain ⟨ta, pa, qa⟩ := ha.ex
  refine ⟨_, pe_callB hc hg hm hv pa hn hdb he hpl, fun σ H ρ l m Q ss s p => ?_⟩
  refine qa σ H ρ l m _ ss s ((PostL.bind ss (gc_ok s p)).mono fun us H1 ⟨xs, m1, ρ1, A, p1⟩ => ?_)
  exact ⟨ρ1, m1, xs, A.sim, A.rep, p1.nx fun _ _ _ => bltop_nx⟩
theorem se_bltT {T : String} {bf : Blt} (hc : CallR X (.type T) (rBlt W bf)) (hg : Gl X fn) (hm : X.mg fn = none) (hv : bootBuiltins fn = some (.type T)) (hn : fn ≠ "__name__") (hdb : (fn == ("__debug__" : PySem.Str)) = false)
    (he : starEach (e :: es) X.env = (false, eval e X.env) :: starEach es X.env) (hpl : (backTo pos (starEach es X.env)).any (·.1) = false) (ha : SA X W wx (e :: es) fr) :
    SE X W wx (.Call (.Name fn p) (e :: es) [] pos) (fun l m => gc m ((fr l m).bind fun vs m1 => bltop bf vs m1)) := by
  obtain ⟨ta, pa, qa⟩ := ha.ex
  refine ⟨_, pe_callTy hc hg hm hv pa hn hdb he hpl, fun σ H ρ l m Q ss s p => ?_⟩
  refine qa σ H ρ l m _ ss s ((PostL.bind ss (gc_ok s p)).mono fun us H1 ⟨xs, m1, ρ1, A, p1⟩ => ?_)
  exact ⟨ρ1, m1, xs, A.sim, A.rep, p1.nx fun _ _ _ => bltop_nx⟩
end
end Py

namespace Py
open PySem PySem.Spec PyProof.Rows L2

/-! ### readings without a choice -/
def tSem (W : Wd) (wx : WX) (f : Loc → Mem → Res Val) : TE := fun σ H Q => ∃ ρ l m, SimS W.K ρ m.length H l σ ∧ Sim W ρ m H ∧ Post W wx σ ρ m.length H (f l m) Q
def tSemT (W : Wd) (wx : WX) (f : Loc → Mem → Res Val) : TT := fun σ H Q => ∃ ρ l m, SimS W.K ρ m.length H l σ ∧ Sim W ρ m H ∧ PostT W wx σ ρ m.length H (f l m) Q
section
variable {X : Cx} {W : Wd} {wx : WX} {a b c e o : Expr} {es : List Expr} {fa fb fc f fo fl fh : Loc → Mem → Res Val} {fr : Loc → Mem → Res (List Val)} {pos p2 : Pos}
theorem SE.pe (h : SE X W wx e f) : PE X e (tSem W wx f) := by
  obtain ⟨t, p, q⟩ := h.ex
  exact ⟨fun pins s σ H Q I ⟨ρ, l, m, ss, sm, po⟩ => p.run pins s σ H Q I (q σ H ρ l m Q ss sm po)⟩
theorem ST.pt (h : ST X W wx e f) : PT X e (tSemT W wx f) := by
  obtain ⟨t, p, q⟩ := h.ex
  exact ⟨fun pins s σ H Q I ⟨ρ, l, m, ss, sm, po⟩ => p.run pins s σ H Q I (q σ H ρ l m Q ss sm po)⟩

/-! ### targets -/
def gSem (W : Wd) (t : Tg) : TG := fun u σ H Q => ∃ ρ l m v l', SimS W.K ρ m.length H l σ ∧ Sim W ρ m H ∧ Rep W.K ρ m.length H v u ∧ assignT m t v l = some l' ∧ ∀ σ', SimS W.K ρ m.length H l' σ' → (∀ i, i ∉ t.slots → σ'[i]? = σ[i]?) → σ'.length = σ.length → Q σ' H
def gSems (W : Wd) (ts : List Tg) : TGs := fun us σ H Q => ∃ ρ l m vs l', SimS W.K ρ m.length H l σ ∧ Sim W ρ m H ∧ RepL W.K ρ m.length H vs us ∧ assignTs m ts vs l = some l' ∧ ∀ σ', SimS W.K ρ m.length H l' σ' → (∀ i, i ∉ Tg.slotsL ts → σ'[i]? = σ[i]?) → σ'.length = σ.length → Q σ' H
theorem pgWeak {tg : Expr} {t t' : TG} (h : PG X tg t) (k : ∀ u σ H Q, t' u σ H Q → t u σ H Q) : PG X tg t' := ⟨fun pins s σ H v u Q I r q => h.run pins s σ H v u Q I r (k _ _ _ _ q)⟩
theorem pgsWeak {tg : List Expr} {t t' : TGs} (h : PGs X tg t) (k : ∀ u σ H Q, t' u σ H Q → t u σ H Q) : PGs X tg t' := ⟨fun pins s σ H v u Q I r q => h.run pins s σ H v u Q I r (k _ _ _ _ q)⟩
theorem sg_name {i : Nat} {x : PySem.Str} (hN : X.N.Nodup) (hi : X.N[i]? = some x) (hx : L2.Loc X.env.scope x) (hf : X.fn x = true ∨ X.env.scope.names.lookup x = some .local) : PG X (.Name x pos) (gSem W (.name i)) := by
  refine pgWeak (pg_name (i := i) hN hi hx hf) fun u σ H Q h => ?_
  obtain ⟨ρ, l, m, v, l', ss, s, r, e, q⟩ := h
  unfold assignT at e
  cases e
  refine q _ (ss.set r i) (fun j hj => ?_) (by simp)
  rw [List.getElem?_set_ne]
  intro e
  apply hj
  unfold Tg.slots
  rw [e]
  exact List.mem_singleton.mpr rfl
theorem sg_nil : PGs X [] (gSems W []) := by
  refine pgsWeak pgs_nil fun u σ H Q h => ?_
  obtain ⟨ρ, l, m, vs, l', ss, s, r, e, q⟩ := h
  cases r with
  | nil =>
    unfold assignTs at e
    cases e
    exact ⟨rfl, q σ ss (fun _ _ => rfl) rfl⟩
  | cons _ _ => unfold assignTs at e; cases e
theorem sg_cons {t : Tg} {ts : List Tg} (h1 : PG X e (gSem W t)) (h2 : PGs X es (gSems W ts)) (hs : (assignEach (e :: es) X.env).map (·.2) = assign e X.env :: (assignEach es X.env).map (·.2)) : PGs X (e :: es) (gSems W (t :: ts)) := by
  refine pgsWeak (pgs_cons h1 h2 hs) fun u σ H Q h => ?_
  obtain ⟨ρ, l, m, vs, l', ss, s, r, e, q⟩ := h
  cases r with
  | nil => unfold assignTs at e; cases e
  | cons r rr =>
    unfold assignTs at e
    obtain ⟨l1, e1, e2⟩ := Option.bind_eq_some_iff.mp e
    refine ⟨_, _, rfl, ρ, l, m, _, l1, ss, s, r, e1, fun σ1 ss1 k1 n1 => ?_⟩
    refine ⟨ρ, l1, m, _, l', ss1, s, rr, e2, fun σ2 ss2 k2 n2 => q σ2 ss2 (fun i hi => ?_) (n2.trans n1)⟩
    unfold Tg.slotsL at hi
    rw [List.mem_append, not_or] at hi
    exact (k2 i hi.2).trans (k1 i hi.1)
theorem assignTs_len {m : Mem} : ∀ {ts : List Tg} {xs : List Val} {l l' : Loc}, assignTs m ts xs l = some l' → ts.length = xs.length
  | [], [], _, _, _ => rfl
  | [], _ :: _, _, _, e => by unfold assignTs at e; cases e
  | _ :: _, [], _, _, e => by unfold assignTs at e; cases e
  | t :: ts, x :: xs, l, l', e => by
    unfold assignTs at e
    obtain ⟨l1, e1, e2⟩ := Option.bind_eq_some_iff.mp e
    exact congrArg Nat.succ (assignTs_len e2)
theorem sg_tup {k : Nat} {ts : List Tg} (hW : W.K = X.K) (hc : X.calm = true) (h : PGs X es (gSems W ts)) (hn : (assignEach es X.env).length = ts.length) (hst : (assignEach es X.env).findIdx? (·.1) = none) : PG X (.Tuple es k pos) (gSem W (.tup ts)) := by
  refine pgWeak (pg_tup (n := ts.length) hc h hn hst) fun u σ H Q h => ?_
  obtain ⟨ρ, l, m, v, l', ss, s, r, e, q⟩ := h
  unfold assignT at e
  cases r with
  | tup hx rl =>
    simp only at e
    exact ⟨_, _, rfl, by rw [← hW]; exact sqT_of hx, by rw [← rl.length]; exact (assignTs_len e).symm, ρ, l, m, _, l', ss, s, rl, e, by unfold Tg.slots at q; exact q⟩
  | _ => cases e

/-! ### what is walked -/
structure WalksOn (W : Wd) (J : L2.It) (xs : List Val) (chk : Option (Nat × List Val)) (ρ0 : Nat → Addr) (n0 : Nat) (H0 : Hp) : Prop where
  go : ∀ (i : Nat) (ρ : Nat → Addr) (m : Mem) (H : Hp) (v : Val), Tr W.K ρ0 n0 H0 ρ m.length H → Sim W ρ m H → still chk m → xs[i]? = some v → J.go i H ∧ ∀ x H', J.yld i H x H' → (H' = H ∨ ∃ p o, H p = none ∧ H' = upd H p o) ∧ Rep W.K ρ m.length H' v x
  stop : ∀ (i : Nat) (ρ : Nat → Addr) (m : Mem) (H : Hp), Tr W.K ρ0 n0 H0 ρ m.length H → Sim W ρ m H → still chk m → xs.length ≤ i → J.stop i H
def PostI (W : Wd) (wx : WX) (σ : L2.St) (ρ : Nat → Addr) (n : Nat) (H : Hp) (r : Res (List Val × Option (Nat × List Val))) (R : L2.It → Hp → Prop) : Prop := match r with
  | .ok w m => ∀ ρ' H' J, Ext W.K ρ n H ρ' m.length H' → Sim W ρ' m H' → WalksOn W J w.1 w.2 ρ' m.length H' → R J H'
  | .exc c fs m => ∀ ρ' H' cls d, Ext W.K ρ n H ρ' m.length H' → Sim W ρ' m H' → RepX W ρ' m.length H' c fs cls d → wx cls d σ H'
  | .err => False
structure SI (X : Cx) (W : Wd) (wx : WX) (tg iter : Expr) (f : Py.Loc → Mem → Res (List Val × Option (Nat × List Val))) : Prop where
  ex : ∃ wi : TI, PI X tg iter wi ∧ ∀ (σ : L2.St) (H : Hp) (ρ : Nat → Addr) (l : Py.Loc) (m : Mem) (R : L2.It → Hp → Prop), SimS W.K ρ m.length H l σ → Sim W ρ m H → PostI W wx σ ρ m.length H (f l m) R → wi σ H R
theorem PI.or {tg iter : Expr} {w1 w2 : TI} (h1 : PI X tg iter w1) (h2 : PI X tg iter w2) : PI X tg iter (fun σ H R => w1 σ H R ∨ w2 σ H R) :=
  ⟨fun pins s σ H R I h => h.elim (h1.run pins s σ H R I) (h2.run pins s σ H R I)⟩
def seqR (x : Val) (m1 : Mem) : Res (List Val × Option (Nat × List Val)) := match x with
  | .tup xs => .ok (xs, none) m1
  | .fro xs => .ok (xs.map .int, none) m1
  | .ref k => match m1.list k with
    | some xs => .ok (xs, some (k, xs)) m1
    | none => .err
  | .str s => .ok (s.map fun c => .str [c], none) m1
  | _ => .err
theorem Post.bindI {σ : L2.St} {ρ : Nat → Addr} {n : Nat} {H : Hp} {l : Py.Loc} {r : Res Val} {f : Val → Mem → Res (List Val × Option (Nat × List Val))} {Q : L2.It → Hp → Prop} (ss : SimS W.K ρ n H l σ) (p : PostI W wx σ ρ n H (r.bind f) Q) :
    Post W wx σ ρ n H r fun u H1 => ∃ v m1 ρ1, Aft W σ ρ n H l v m1 ρ1 u H1 ∧ PostI W wx σ ρ1 m1.length H1 (f v m1) Q := by
  cases r with
  | ok v m =>
    intro ρ' H' u a b c
    refine ⟨v, m, ρ', ⟨a, ss.ext a, b, c⟩, ?_⟩
    have p' : PostI W wx σ ρ n H (f v m) Q := p
    cases e : f v m with
    | ok v m => rw [e] at p'; exact fun ρ2 H2 J x s w => p' ρ2 H2 J (a.trans x) s w
    | exc _ _ _ => rw [e] at p'; exact fun ρ2 H2 c d x s w => p' ρ2 H2 c d (a.trans x) s w
    | err => rw [e] at p'; exact p'
  | exc c fs m => exact p
  | err => exact p
theorem walks_list {ρ : Nat → Addr} {m : Mem} {H : Hp} {k : Nat} {xs : List Val} (s : Sim W ρ m H) (h : m.list k = some xs) : WalksOn W (Itl W.K (ρ k)) xs (some (k, xs)) ρ m.length H := by
  have hk := (s.list h).1
  refine ⟨fun i ρ1 m1 H1 v x s1 st hv => ?_, fun i ρ1 m1 H1 x s1 st hi => ?_⟩
  · have st' : m1.list k = some xs := st
    obtain ⟨_, _, us, q, r⟩ := s1.list st'
    rw [x.agree k hk] at q
    obtain ⟨u, h1, h2⟩ := r.get hv
    refine ⟨⟨us, u, SqL.of q, h1⟩, fun y H' ⟨e, hy⟩ => ?_⟩
    have := hy us (SqL.of q)
    rw [h1] at this
    cases this
    subst e
    exact ⟨.inl rfl, h2⟩
  · have st' : m1.list k = some xs := st
    obtain ⟨_, _, us, q, r⟩ := s1.list st'
    rw [x.agree k hk] at q
    exact ⟨us, SqL.of q, by rw [← r.length]; exact hi⟩
theorem walks_fro {ρ : Nat → Addr} {m : Mem} {H : Hp} {a : Addr} {xs : List Int} (h : SqF W.K H a (xs.map V.int)) : WalksOn W (Itl W.K a) (xs.map Val.int) none ρ m.length H := by
  have st : ∀ {ρ1 : Nat → Addr} {m1 : Mem} {H1 : Hp}, Tr W.K ρ m.length H ρ1 m1.length H1 → SqF W.K H1 a (xs.map V.int) := fun x => h.imp (fun ⟨o, e⟩ => ⟨o, x.tupt _ _ (.frz _ _) e⟩) id
  refine ⟨fun i ρ1 m1 H1 v x s1 _ hv => ?_, fun i ρ1 m1 H1 x s1 _ hi => ?_⟩
  · have r1 := RepL.ints (K := W.K) (ρ := ρ1) (n := m1.length) (H := H1) xs
    obtain ⟨u, h1, h2⟩ := r1.get hv
    have q := (st x).l
    refine ⟨⟨_, u, q, h1⟩, fun y H' ⟨e, hy⟩ => ?_⟩
    have z := hy _ q
    rw [h1] at z
    cases z
    subst e
    exact ⟨.inl rfl, h2⟩
  · exact ⟨_, (st x).l, by rw [List.length_map] at hi ⊢; exact hi⟩
theorem walks_tup {ρ : Nat → Addr} {m : Mem} {H : Hp} {a : Addr} {us : List V} {xs : List Val} (h : SqT W.K H a us) (r : RepL W.K ρ m.length H xs us) (inj : ∀ H1 vs, SqT W.K H1 a us → SqT W.K H1 a vs → vs = us → True) : WalksOn W (Itt W.K a) xs none ρ m.length H := by
  refine ⟨fun i ρ1 m1 H1 v x s1 _ hv => ?_, fun i ρ1 m1 H1 x s1 _ hi => ?_⟩
  · have r1 := r.tr x
    have q := x.tups a us h
    obtain ⟨u, h1, h2⟩ := r1.get hv
    refine ⟨⟨us, u, q, h1⟩, fun y H' ⟨e, hy⟩ => ?_⟩
    have := hy us q
    rw [h1] at this
    cases this
    subst e
    exact ⟨.inl rfl, h2⟩
  · exact ⟨us, x.tups a us h, by rw [← r.length]; exact hi⟩
theorem walks_str {ρ : Nat → Addr} {m : Mem} {H : Hp} {a : List Nat} (ha : okS a = true) : WalksOn W (Its (sv a)) (a.map fun c => Val.str [c]) none ρ m.length H := by
  refine ⟨fun i ρ1 m1 H1 v x s1 _ hv => ?_, fun i ρ1 m1 H1 x s1 _ hi => ?_⟩
  · rw [List.getElem?_map] at hv
    obtain ⟨c, h1, h2⟩ := Option.map_eq_some_iff.mp hv
    subst h2
    have hi : i < a.length := (List.getElem?_eq_some_iff.mp h1).1
    have e1 : (sv a).cps[i]? = some c := by simp [sv, h1]
    refine ⟨by show i < (sv a).cps.size; simp [sv, hi], fun y H' ⟨e, c', hc, hy⟩ => ?_⟩
    rw [e1] at hc
    cases hc
    subst e hy
    exact ⟨.inl rfl, .str [c] (okS_mem ha fun z hz => by rw [List.mem_singleton.mp hz]; exact List.mem_of_getElem? h1)⟩
  · rw [List.length_map] at hi
    show (sv a).cps.size ≤ i
    simp [sv, hi]
theorem walks_rng {ρ : Nat → Addr} {m : Mem} {H : Hp} (lo : Int) (n : Nat) : WalksOn W (Itr lo n) ((List.range n).map fun (i : Nat) => Val.int (lo + i)) none ρ m.length H := by
  refine ⟨fun i ρ1 m1 H1 v x s1 _ hv => ?_, fun i ρ1 m1 H1 x s1 _ hi => ?_⟩
  · rw [List.getElem?_map] at hv
    obtain ⟨c, h1, h2⟩ := Option.map_eq_some_iff.mp hv
    subst h2
    obtain ⟨hi, ec⟩ := List.getElem?_eq_some_iff.mp h1
    rw [List.length_range] at hi
    rw [List.getElem_range] at ec
    subst ec
    refine ⟨hi, fun y H' ⟨e, hy⟩ => ?_⟩
    subst e hy
    exact ⟨.inl rfl, .int _⟩
  · rw [List.length_map, List.length_range] at hi
    exact hi
theorem si_seq {tg iter : Expr} (hW : W.K = X.K) (h : SE X W wx iter f) : SI X W wx tg iter (fun l m => (f l m).bind fun x m1 => seqR x m1) := by
  obtain ⟨t, p, q⟩ := h.ex
  refine ⟨_, PI.or (pi_list p) (PI.or (pi_tup p) (pi_str p)), fun σ H ρ l m R ss s po => ?_⟩
  have p0 := Post.bindI ss po
  cases e : f l m with
  | err => rw [e] at p0; exact p0.elim
  | exc c fs m1 => exact .inl (q σ H ρ l m _ ss s (by rw [e]; rw [e] at p0; exact p0))
  | ok v m1 =>
    rw [e] at po
    have po' : PostI W wx σ ρ m.length H (seqR v m1) R := po
    unfold seqR at po'
    split at po'
    · refine .inr (.inl (q σ H ρ l m _ ss s ?_))
      rw [e]
      intro ρ' H' u x s' r
      cases r with
      | tup hx rl =>
        rename_i xs a us
        have hq := sqT_of hx
        exact ⟨a, rfl, ⟨us, by rw [← hW]; exact hq⟩, by rw [← hW]; exact po' ρ' H' _ x s' (walks_tup hq rl fun _ _ _ _ _ => trivial)⟩
    · refine .inl (q σ H ρ l m _ ss s ?_)
      rw [e]
      intro ρ' H' u x s' r
      cases r with
      | fro hf => exact ⟨_, rfl, ⟨_, by rw [← hW]; exact hf.l⟩, by rw [← hW]; exact po' ρ' H' _ x s' (walks_fro hf)⟩
    · split at po'
      · rename_i k xs ek
        refine .inl (q σ H ρ l m _ ss s ?_)
        rw [e]
        intro ρ' H' u x s' r
        cases r with
        | ref hk =>
          obtain ⟨_, _, us, q1, r1⟩ := s'.list ek
          exact ⟨_, rfl, ⟨us, SqL.of q1⟩, by rw [← hW]; exact po' ρ' H' _ x s' (walks_list s' ek)⟩
      · exact po'.elim
    · refine .inr (.inr (q σ H ρ l m _ ss s ?_))
      rw [e]
      intro ρ' H' u x s' r
      cases r with
      | str a ha => exact ⟨_, rfl, po' ρ' H' _ x s' (walks_str ha)⟩
    · exact po'.elim
def rng1R (x : Val) (m1 : Mem) : Res (List Val × Option (Nat × List Val)) := match x with
  | .int j => if -4611686018427387904 ≤ j ∧ j < 4611686018427387904 then .ok ((List.range j.toNat).map fun (i : Nat) => .int i, none) m1 else .err
  | _ => .err
def rng2R (x y : Val) (m2 : Mem) : Res (List Val × Option (Nat × List Val)) := match x, y with
  | .int i, .int j => if (-4611686018427387904 ≤ i ∧ i < 4611686018427387904) ∧ -4611686018427387904 ≤ j ∧ j < 4611686018427387904 then .ok ((List.range (j - i).toNat).map fun (k : Nat) => .int (i + k), none) m2 else .err
  | _, _ => .err
theorem si_range1 {tg : Expr} {p pos : Pos} (hg : Gl X "range") (hm : X.mg "range" = none) (hs : starEach [a] X.env = [(false, eval a X.env)]) (hs' : starEach [a] X.env = (false, eval a X.env) :: starEach [] X.env) (h : SE X W wx a fa) :
    SI X W wx tg (.Call (.Name "range" p) [a] [] pos) (fun l m => (fa l m).bind fun x m1 => rng1R x m1) := by
  obtain ⟨t, pa, q⟩ := h.ex
  refine ⟨_, pi_range1 hg hm (pa_cons pa pa_nil hs') hs, fun σ H ρ l m R ss s po => ?_⟩
  refine q σ H ρ l m _ ss s ((Post.bindI ss po).mono fun u H1 ⟨x, m1, ρ1, A, p1⟩ => ?_)
  unfold rng1R at p1
  split at p1
  · rename_i j
    split at p1
    · rename_i hj
      have r := int_of A.rep
      subst r
      refine ⟨j, rfl, by have := hj.1; omega, by have := hj.2; omega, p1 ρ1 H1 _ Ext.refl A.sim ?_⟩
      have w := walks_rng (W := W) (ρ := ρ1) (m := m1) (H := H1) 0 j.toNat
      simpa using w
    · exact p1.elim
  · exact p1.elim
theorem si_range2 {tg : Expr} {p pos : Pos} (hg : Gl X "range") (hm : X.mg "range" = none) (hs1 : starEach [a, b] X.env = [(false, eval a X.env), (false, eval b X.env)]) (hs2 : starEach [b] X.env = [(false, eval b X.env)])
    (hs3 : starEach [a, b] X.env = (false, eval a X.env) :: starEach [b] X.env) (hs4 : starEach [b] X.env = (false, eval b X.env) :: starEach [] X.env) (ha : SE X W wx a fa) (hb : SE X W wx b fb) :
    SI X W wx tg (.Call (.Name "range" p) [a, b] [] pos) (fun l m => (fa l m).bind fun x m1 => (fb l m1).bind fun y m2 => rng2R x y m2) := by
  obtain ⟨ta, pa, qa⟩ := ha.ex
  obtain ⟨tb, pb, qb⟩ := hb.ex
  refine ⟨_, pi_range2 hg hm (pa_cons pa (pa_cons pb pa_nil hs4) hs3) hs1 hs2, fun σ H ρ l m R ss s po => ?_⟩
  refine qa σ H ρ l m _ ss s ((Post.bindI ss po).mono fun u H1 ⟨x, m1, ρ1, A, p1⟩ => ?_)
  refine qb σ H1 ρ1 l m1 _ A.ss A.sim ((Post.bindI A.ss p1).mono fun w H2 ⟨y, m2, ρ2, B, p2⟩ => ?_)
  have rA := A.rep
  have rB := B.rep
  cases rA with
  | int i =>
    cases rB with
    | int j =>
      simp only [rng2R] at p2
      split at p2
      · rename_i hj
        exact ⟨i, j, rfl, ⟨by have := hj.1.1; omega, by have := hj.1.2; omega, by have := hj.2.1; omega, by have := hj.2.2; omega⟩, p2 ρ2 H2 _ Ext.refl B.sim (walks_rng i _)⟩
      · exact p2.elim
    | _ => exact p2.elim
  | _ => cases rB <;> exact p2.elim
end
end Py

namespace Py
open PySem PySem.Spec PyProof.Rows L2

section
variable {X : Cx} {W : Wd} {P : Prog} {Cc : Calls} {k : Nat}

/-! ### a method of one's own, run anywhere below -/
abbrev NoE : XK := fun _ _ _ => False
theorem run_at {A1 : Around} {E' : Value → Shared → Prop} {j : Nat} {g : Addr} {fd : FuncData} {ps : List PySem.Str} {sp : Sp} {pins : List (Addr × Obj)} {σ : L2.St} {H : Hp} {s : Shared} {us : List Value} {vs : List V} {Q : VK} (hr : Room j A1) (fr : A1.frames = X.A.frames)
    (F : FnOk X.prog X.w X.K X.mg X.base (L2.CX X.prog X.w) j g fd ps sp) (hb : Binds X.K fd ps []) (I : Inv X pins σ H s) (r : Vals vs us) (h : sp vs H Q NoE) : wpAny (model X.prog X.w) A1 (call (.ref g) us) (EP X pins σ Q) E' s := by
  have e0 : Env0 X.prog X.w X.K X.mg X.base A1 X.stack s H := by
    have e := I.env0
    exact ⟨by rw [fr]; exact e.frames, e.mod, e.bs, e.bsz, e.funs, e.frf, e.hok, e.bare⟩
  have hl : us.length = ps.length := by rw [← r.length]; exact F.len _ _ _ _ h
  have b := hb s us I.kIn (by rw [List.append_nil]; exact hl)
  rw [List.append_nil] at b
  refine wpAny_call (codeAny_mono (F.run A1 X.stack s H ⟨us, []⟩ us vs Q NoE hr e0 b r h) fun r s' hq => ?_)
  cases r with
  | error e => obtain ⟨_, _, _, _, _, _, _, _, _, _, _, _, z⟩ := hq; exact z.elim
  | ok fl =>
    cases fl with
    | ret u => exact I.after hq
    | next => exact False.elim hq
    | brk => exact False.elim hq
    | cont => exact False.elim hq

theorem lenR_of {x : Val} {m : Mem} {R : Res Val → Prop} (h : R (lenR P Cc x m)) (no : ¬ R .err) : ∃ j c fs q n m2, x = .ref j ∧ m[j]? = some (.inst c fs) ∧ P.meth c "__len__" = some q ∧ Cc q [.ref j] m = .ok (.int n) m2 ∧ 0 ≤ n ∧ n < 9223372036854775808 ∧ lenR P Cc x m = .ok (.int n) m2 := by
  have h0 := h
  unfold lenR at h
  split at h
  · rename_i j
    split at h
    · rename_i c fs ek
      split at h
      · rename_i q em
        split at h
        · rename_i n m2 er
          split at h
          · rename_i hn
            refine ⟨j, c, fs, q, n, m2, rfl, ek, em, er, hn.1, hn.2, ?_⟩
            unfold lenR
            simp only [ek, em, er]
            rw [if_pos hn]
          · exact (no h).elim
        · exact (no h).elim
      · exact (no h).elim
    · exact (no h).elim
  · exact (no h).elim

/-- len of an object with its own __len__ -/
theorem len_at {A1 : Around} {E' : Value → Shared → Prop} {pins : List (Addr × Obj)} {σ : L2.St} {H : Hp} {s : Shared} {ρ : Nat → Addr} {m m2 : Mem} {j : Nat} {c q : PySem.Str} {fs : List (PySem.Str × Val)} {n : Int} {Q : VK} (hW : W.K = X.K)
    (hM : ∀ c0 q, P.meth c0 "__len__" = some q → MethOk X W Cc k c0 "__len__" q) (hr : Room k A1.in1) (fr : A1.frames = X.A.frames) (I : Inv X pins σ H s) (sm : Sim W ρ m H) (ek : m[j]? = some (.inst c fs)) (em : P.meth c "__len__" = some q) (er : Cc q [.ref j] m = .ok (.int n) m2)
    (h0 : 0 ≤ n) (h1 : n < 9223372036854775808) (hQ : ∀ ρ' H', Py.Ext W.K ρ m.length H ρ' m2.length H' → Sim W ρ' m2 H' → Q (.int n) H') :
    wpAny (model X.prog X.w) A1 (call (.builtin "len") [.ref (ρ j)]) (EP X pins σ Q) E' s := by
  obtain ⟨dx, us, q1, q2, q3, q4⟩ := sm.inst ek
  obtain ⟨g, fd, ps, M, F, B⟩ := hM c q em
  have hj : j < m.length := (List.getElem?_eq_some_iff.mp ek).1
  obtain ⟨mA, J, _⟩ := ins_get I.hok q1
  obtain ⟨od, J, _⟩ := J.look
  have go : ∀ E1 : Value → Shared → Prop, wpAny (model X.prog X.w) A1.in1 (call (.ref g) [.ref (ρ j)]) (EP X pins σ fun v H' => v = .int n ∧ Q (.int n) H') E1 s := fun E1 =>
    run_at hr fr F B I (us := [.ref (ρ j)]) (vs := [.ref (ρ j)]) (.cons rfl .nil) ⟨ρ, m, [.ref j], sm, .cons (.ref hj) .nil, by
      rw [er]
      intro ρ' H' u a b r
      cases r
      exact ⟨rfl, hQ ρ' H' a b⟩⟩
  refine Calls.call_function_entry PySem.kind_len PySem.plain_len PySem.entry_len (PySem.args_len1 _) ?_
  unfold Builtin.«len»
  refine wpAny_bind (m := oneArg "len" _) (wpAny_pure ?_)
  refine wpAny_bind (m := callSpecial? (.ref (ρ j)) (Str.ofString "__len__")) (PySem.W.special_fn (name := "__len__") (args := []) I.kIn J M.at_ (beq_iff_eq.mp M.fn) (wpAny_mono (go _) (fun r s' hr => ?_) fun _ _ y => y))
  obtain ⟨v, H', I', rv, ev, hq⟩ := hr
  subst ev
  obtain ⟨t, rfl⟩ := rv
  refine wpAny_bind (wpAny_holding (wpAny_pure ?_))
  refine wpAny_bind (wpAny_letGo ?_)
  show wpAny _ _ (if n < 0 then _ else _) _ _ _
  rw [if_neg (by omega)]
  show wpAny _ _ (if n ≥ 2 ^ 63 then _ else _) _ _ _
  rw [if_neg (by omega)]
  exact wpAny_bind (wpAny_mkInt (wpAny_pure ⟨_, rfl, .int n, H', I'.tok _, ⟨_, rfl⟩, hq⟩))
def rLenO (P : Prog) (W : Wd) (Cc : Calls) : List V → Hp → VK → Prop := fun us H Q => ∃ ρ m v u, us = [u] ∧ Sim W ρ m H ∧ Rep W.K ρ m.length H v u ∧ PV W ρ m.length H (lenR P Cc v m) Q
theorem call_lenO (hW : W.K = X.K) (hM : ∀ c0 q, P.meth c0 "__len__" = some q → MethOk X W Cc k c0 "__len__" q) (hr : Room (k + 1) X.A) : CallR X (.builtin "len") (rLenO P W Cc) := by
  intro pins s σ H xs us Q I rv h
  obtain ⟨ρ, m, v, u, rfl, sm, r, p⟩ := h
  obtain ⟨j, c, fs, q, n, m2, rfl, ek, em, er, h0, h1, e⟩ := lenR_of (R := fun r => PV W ρ m.length H r Q) p (fun z => z)
  rw [e] at p
  obtain ⟨w, rfl, ru⟩ := vals1 rv
  cases r
  cases ru
  exact len_at hW hM hr.in1 rfl I sm ek em er h0 h1 fun ρ' H' a b => p ρ' H' _ a b (.int n)


/-! ### an own __iter__ that walks a list -/
def spItS (n : Nat) (K : PySem.W.Frag) (f : PySem.Str) : List V → Hp → VK → Prop := fun vs H Q => ∃ a C dx fs l xs, vs = [V.ref a] ∧ H a = some (.ins C dx fs) ∧ Cls K C ∧ NoAttr K C f ∧ fs.lookup f = some (.ref l) ∧ SqL K H l xs ∧ ∀ it, H it = none → n ≤ it → Q (.ref it) (upd H it (ItO l it 0))
def FnIt (P : Program) (w : World) (K : PySem.W.Frag) (mg : PySem.Str → Option Value) (base : Heap) (g : Addr) (fd : FuncData) (f : PySem.Str) : Prop :=
  ∀ (A : Around) (outer : List Env) (s : Shared) (H : Hp) (args : Args) (us : List Value) (vs : List V) (Q : VK), Room 1 A → Env0 P w K mg base A outer s H → BindsTo s fd args ([("self" : PySem.Str)].zip us) → Vals vs us → spItS s.heap.objs.size K f vs H Q →
    codeAny (model P w) A (.call (.ref g) args) (fun r s' => match r with | .ok (.ret u) => CE outer P w H s Q u s' | _ => False) s
structure IterP (P : Program) (w : World) (K : PySem.W.Frag) (mg : PySem.Str → Option Value) (base : Heap) (W : Wd) (c0 f : PySem.Str) : Prop where
  ex : ∃ g fd, PySem.W.findIn K (.ref (W.cad c0)) "__iter__" = some (some (.ref g)) ∧ PySem.W.isFn K (.ref g) = true ∧ Binds K fd [("self" : PySem.Str)] [] ∧ FnIt P w K mg base g fd f
abbrev IterOk (X : Cx) (W : Wd) (c0 f : PySem.Str) : Prop := IterP X.prog X.w X.K X.mg X.base W c0 f

theorem iterL_of {x : Val} {m : Mem} {l : Nat} (h : iterL P x m = some l) : ∃ j c fs f xs, x = .ref j ∧ m[j]? = some (.inst c fs) ∧ P.iter c = some f ∧ fs.lookup f = some (.ref l) ∧ m.list l = some xs := by
  unfold iterL at h
  split at h
  · split at h
    · split at h
      · split at h
        · split at h
          · cases h
            rename_i hs
            obtain ⟨xs, e⟩ := Option.isSome_iff_exists.mp hs
            exact ⟨_, _, _, _, xs, rfl, by assumption, by assumption, by assumption, e⟩
          · cases h
        · cases h
      · cases h
    · cases h
  · cases h

/-- iter(x): the iterator comes, tracked and young -/
theorem iter_at {A1 : Around} {E' : Value → Shared → Prop} {pins : List (Addr × Obj)} {σ : L2.St} {H : Hp} {s : Shared} {ρ : Nat → Addr} {m : Mem} {j l : Nat} {c f : PySem.Str} {fs : List (PySem.Str × Val)} {xs : List Val} {Q : Value → Shared → Prop} (hW : W.K = X.K)
    (hI : ∀ c0 f, P.iter c0 = some f → IterOk X W c0 f) (hr : Room 1 A1) (fr : A1.frames = X.A.frames) (I : Inv X pins σ H s) (sm : Sim W ρ m H) (ek : m[j]? = some (.inst c fs)) (ei : P.iter c = some f) (el : fs.lookup f = some (.ref l)) (ex : m.list l = some xs)
    (hQ : ∀ it s', H it = none → s.heap.objs.size ≤ it → Inv X pins σ (upd H it (ItO (ρ l) it 0)) s' → Q (.ref it) s') :
    wpAny (model X.prog X.w) A1 (pyIter (.ref (ρ j))) Q E' s := by
  obtain ⟨dx, us, q1, q2, q3, q4⟩ := sm.inst ek
  obtain ⟨g, fd, M1, M2, B, F⟩ := (hI c f ei).ex
  have hj : j < m.length := (List.getElem?_eq_some_iff.mp ek).1
  obtain ⟨mA, J, _⟩ := ins_get I.hok q1
  obtain ⟨od, J, _⟩ := J.look
  obtain ⟨w, w1, w2⟩ := (q2.get f).1 _ el
  obtain ⟨hl, _, ws, b1, b2⟩ := sm.list ex
  cases w2
  have e0 : Env0 X.prog X.w X.K X.mg X.base A1 X.stack s H := by
    have e := I.env0
    exact ⟨by rw [fr]; exact e.frames, e.mod, e.bs, e.bsz, e.funs, e.frf, e.hok, e.bare⟩
  have b := B s [.ref (ρ j)] I.kIn rfl
  obtain ⟨m0, hF⟩ := I.fr
  refine PySem.W.owit_iter hF I.ok.mod.kin J M1 M2 ?_
  refine wpAny_call (codeAny_mono (F A1 X.stack s H ⟨[.ref (ρ j)], []⟩ [.ref (ρ j)] [.ref (ρ j)] (fun v H' => ∃ it, v = .ref it ∧ H it = none ∧ s.heap.objs.size ≤ it ∧ H' = upd H it (ItO (ρ l) it 0)) hr e0 b (.cons rfl .nil)
    ⟨ρ j, _, dx, us, ρ l, ws, rfl, q1, by rw [← hW]; exact q3, by rw [← hW]; exact q4 f _ w1, w1, SqL.of b1, fun it h1 h2 => ⟨it, rfl, h1, h2, rfl⟩⟩) fun r s' hq => ?_)
  cases r with
  | error e => exact hq.elim
  | ok fl =>
    cases fl with
    | ret u =>
      obtain ⟨v, H', I', rv, it, ev, h1, h2, eH⟩ := I.after hq
      subst ev eH
      cases rv
      have hT : s'.TypeIs (.ref it) "list_iterator" := ⟨_, itO_get I' upd_same, rfl⟩
      show wpAny _ _ (specialOf (.ref it) "__next__") _ _ _
      exact wpAny_specialOf hT slot_listiter_next.lookup (hQ it s' h1 h2 I')
    | next => exact hq.elim
    | brk => exact hq.elim
    | cont => exact hq.elim

theorem next_itO {A1 : Around} {E' : Value → Shared → Prop} {pins : List (Addr × Obj)} {σ : L2.St} {H : Hp} {s : Shared} {it l : Addr} {i : Nat} {xs : List V} {x : V} {Q : Option Value → Shared → Prop} (I : Inv X pins σ H s) (ei : H it = some (ItO l it i)) (el : H l = some (.lst xs)) (ex : xs[i]? = some x)
    (hQ : ∀ u s', RelV x u → Inv X pins σ (upd H it (ItO l it (i + 1))) s' → Q (some u) s') : wpAny (model X.prog X.w) A1 (pyNext (.ref it)) Q E' s := by
  obtain ⟨its, rv, pl, _⟩ := I.list (SqL.of el)
  obtain ⟨u, hu, ru⟩ := rv.get ex
  have hT : s.TypeIs (.ref it) "list_iterator" := ⟨_, itO_get I ei, rfl⟩
  have mu : Mut (H it) := by rw [ei]; exact True.intro
  unfold pyNext
  refine wpAny_bind (wpAny_attempt (wpAny_callSpecial?_slot (name := Str.ofString "__next__") hT slot_listiter_next (wpAny_call_entry slot_listiter_next hT entry_listiter_next ?_ (args_listiter_next _))))
  refine wpAny_mono (GNX.next_item (itO_get I ei) pl.isList (by rw [List.getElem?_toArray]; exact hu) (Q := fun v s' => v = u ∧ Inv X pins σ (upd H it (ItO l it (i + 1))) s') fun h' e' sb => ⟨rfl, I.write (x := it) (e := it) (t' := s.toks) mu (.inl rfl) (fun b o nb z => (sb.2 b nb).trans z) ⟨_, e'⟩ (itO_ok e')⟩) (fun fin s' hq => ?_) fun _ _ z => z
  obtain ⟨v, e, ev, I'⟩ := hq
  subst ev
  exact ⟨_, e, wpAny_pure (hQ _ s' ru I')⟩
theorem next_itE {A1 : Around} {E' : Value → Shared → Prop} {pins : List (Addr × Obj)} {σ : L2.St} {H : Hp} {s : Shared} {it l : Addr} {i : Nat} {xs : List V} {Q : Option Value → Shared → Prop} (hh : A1.handled = none) (I : Inv X pins σ H s) (ei : H it = some (ItO l it i)) (el : H l = some (.lst xs)) (ex : xs[i]? = none)
    (hQ : ∀ s', Inv X pins σ (upd H it (ItE it i)) s' → Q none s') : wpAny (model X.prog X.w) A1 (pyNext (.ref it)) Q E' s := by
  obtain ⟨its, rv, pl, _⟩ := I.list (SqL.of el)
  have hT : s.TypeIs (.ref it) "list_iterator" := ⟨_, itO_get I ei, rfl⟩
  have mu : Mut (H it) := by rw [ei]; exact True.intro
  unfold pyNext
  refine wpAny_bind (wpAny_attempt (wpAny_callSpecial?_slot (name := Str.ofString "__next__") hT slot_listiter_next (wpAny_call_entry slot_listiter_next hT entry_listiter_next ?_ (args_listiter_next _))))
  refine wpAny_mono (GNX.next_end (A := A1) hh (itO_get I ei) pl.isList (by rw [List.getElem?_toArray]; exact rv.none_of ex) (Q := fun _ _ => False) (E := fun u s' => ∃ e, u = .ref e ∧ (∃ o, s'.heap.get? e = some o ∧ o.cls = .type "StopIteration") ∧ Inv X pins σ (upd H it (ItE it i)) s') fun h1 h' e vs e1 sb k ne he' hv => ?_) (fun fin s' hq => ?_) fun u s' hq => ?_
  · have I2 : Inv X pins σ (upd H it (ItE it i)) { s with heap := h1 } := I.write (x := it) (e := it) (t' := s.toks) mu (.inl rfl) (fun b o nb z => (sb.2 b nb).trans z) ⟨_, e1⟩ (itE_ok e1)
    exact ⟨e, rfl, ⟨_, he', rfl⟩, I2.kept (t' := s.toks) k⟩
  · obtain ⟨_, _, z⟩ := hq
    exact z.elim
  · obtain ⟨e, rfl, ⟨o, ho, hc⟩, I2⟩ := hq
    refine wpAny_bind (wpAny_isInstance (T := "StopIteration") (b := true) ⟨o, ho, hc⟩ isSubtype_stop ?_)
    exact wpAny_pure (hQ _ I2)

/-- the list fills -/
theorem own_loop {A1 : Around} {pins : List (Addr × Obj)} {σ : L2.St} {H0 : Hp} {it l q : Addr} {xs : List V} {Rs : Result → Shared → Prop} (hh : A1.in1.handled = none) (hq : q ≠ it) (hl : l ≠ it) (hlq : l ≠ q) (hz : xs.length ≤ sizeLine)
    (hdone : ∀ H s, Inv X pins σ H s → (∀ b, b ≠ q → b ≠ it → H b = H0 b) → H q = some (.lst xs) → H it ≠ none → Rs (.ok (.ret .none)) s) :
    ∀ (k i : Nat) (H : Hp) (s : Shared), xs.length - i = k → i ≤ xs.length → Inv X pins σ H s → (∀ b, b ≠ q → b ≠ it → H b = H0 b) → H q = some (.lst (xs.take i)) → H it = some (ItO l it i) → H l = some (.lst xs) →
      codeAny (model X.prog X.w) A1 (.builtin "list.extend.loop" ⟨[.ref q, .ref it, .none], []⟩) Rs s := by
  intro k
  induction k with
  | zero =>
    intro i H s hk hi I hf eq ei el
    have e : i = xs.length := by omega
    subst e
    refine codeAny_builtin PySem.F.entry_extend_loop ?_
    rw [Around.under_plainId PySem.F.plain_extend_loop _]
    show wpAny _ A1.in1 (pyNext (.ref it) >>= _) _ _ s
    refine wpAny_bind (next_itE hh I ei el (by simp) fun s' I' => ?_)
    refine wpAny_pure (hdone _ s' I' (fun b h1 h2 => by rw [upd_ne h2]; exact hf b h1 h2) (by rw [upd_ne hq, eq, List.take_of_length_le (Nat.le_refl _)]) (by rw [upd_same]; simp))
  | succ k ih =>
    intro i H s hk hi I hf eq ei el
    have hi' : i < xs.length := by omega
    refine codeAny_builtin PySem.F.entry_extend_loop ?_
    rw [Around.under_plainId PySem.F.plain_extend_loop _]
    show wpAny _ A1.in1 (pyNext (.ref it) >>= _) _ _ s
    refine wpAny_bind (next_itO I ei el (List.getElem?_eq_getElem hi') fun u s' ru I' => ?_)
    show wpAny _ A1.in1 (updateSeq q (·.push u) >>= _) _ _ _
    have eq' : upd H it (ItO l it (i + 1)) q = some (.lst (xs.take i)) := by rw [upd_ne hq]; exact eq
    obtain ⟨z, its, n, r2, hl2, e⟩ := I'.lstM eq'
    have hti : (xs.take i).length = i := by rw [List.length_take]; omega
    refine wpAny_bind (wpAny_updateSeq e rfl (wpAny_pure ⟨plainId_quiet PySem.F.plain_extend_loop _, ?_⟩) (by rw [List.size_toArray]; omega) (by show (its.toArray.push u).size ≤ sizeLine + 1; rw [Array.size_push, List.size_toArray]; omega))
    have I2 := I'.lset (its' := its ++ [u]) (ys := xs.take (i + 1)) (f := (·.push u)) (t' := s'.toks) eq' e (by simp) (by rw [List.take_succ, List.getElem?_eq_getElem hi']; exact r2.append (.cons ru .nil)) (by rw [List.length_take]; omega)
    refine ih (i + 1) _ _ (by omega) hi' I2 (fun b h1 h2 => by rw [upd_ne h1, upd_ne h2]; exact hf b h1 h2) upd_same (by rw [upd_ne (Ne.symm hq), upd_same]) (by rw [upd_ne hlq, upd_ne hl]; exact el)

/-- the hint of an object with its own __len__ -/
theorem own_hint {A1 : Around} {E' : Value → Shared → Prop} {pins : List (Addr × Obj)} {σ : L2.St} {H : Hp} {s : Shared} {ρ : Nat → Addr} {m m2 : Mem} {j : Nat} {c q : PySem.Str} {fs : List (PySem.Str × Val)} {n : Int} {Q : Bool → Shared → Prop} (hW : W.K = X.K)
    (hM : ∀ c0 q, P.meth c0 "__len__" = some q → MethOk X W Cc k c0 "__len__" q) (hr : Room k A1.in1) (fr : A1.frames = X.A.frames) (I : Inv X pins σ H s) (sm : Sim W ρ m H) (ek : m[j]? = some (.inst c fs)) (em : P.meth c "__len__" = some q) (er : Cc q [.ref j] m = .ok (.int n) m2)
    (h0 : 0 ≤ n) (h1 : n ≤ SZ) (hQ : ∀ b s' H' ρ', Inv X pins σ H' s' → Py.Ext W.K ρ m.length H ρ' m2.length H' → Sim W ρ' m2 H' → Q b s') :
    wpAny (model X.prog X.w) A1 (Builtin.List.listLengthHint (.ref (ρ j))) Q E' s := by
  obtain ⟨dx, us, q1, q2, q3, q4⟩ := sm.inst ek
  obtain ⟨g, fd, ps, M, F, B⟩ := hM c q em
  obtain ⟨mA, J, _⟩ := ins_get I.hok q1
  obtain ⟨od, J, _⟩ := J.look
  have hz : n.toNat ≤ sizeLine := by rw [← sz_line]; omega
  unfold Builtin.List.listLengthHint
  refine wpAny_bind (wpAny_bind (J.type.here ((PySem.W.looks_findIn I.kIn M.at_).here ?_)))
  refine PySem.W.KFB.if_not rfl ?_
  refine wpAny_ite_split (fun _ => ?_) (fun z => absurd rfl z)
  refine wpAny_bind (wpAny_rule ?_)
  refine wpAny_bind (wpAny_attempt (wpAny_mono (len_at (E' := fun _ _ => False) (Q := fun v H' => v = .int n ∧ ∃ ρ', Py.Ext W.K ρ m.length H ρ' m2.length H' ∧ Sim W ρ' m2 H') hW hM hr fr I sm ek em er h0 (by have : SZ = 16777216 := rfl; omega) fun ρ' H' a b => ⟨rfl, ρ', a, b⟩) (fun u s' hu => ?_) fun _ _ z => z.elim))
  obtain ⟨v, H', I', rv, ev, ρ', a, b⟩ := hu
  subst ev
  obtain ⟨t, rfl⟩ := rv
  dsimp only
  refine wpAny_bind (wpAny_of_eq (a := some n) rfl ?_)
  dsimp only
  rw [if_neg (by rw [notLongL hz]; simp)]
  exact wpAny_pure (hQ _ s' H' ρ' I' a b)

def rListO (P : Prog) (W : Wd) (Cc : Calls) : List V → Hp → VK → Prop := fun us H Q => ∃ ρ m v u, us = [u] ∧ Sim W ρ m H ∧ Rep W.K ρ m.length H v u ∧ PV W ρ m.length H (listR P Cc v m) Q
theorem listR_of {x : Val} {m : Mem} {R : Res Val → Prop} (h : R (listR P Cc x m)) (no : ¬ R .err) : ∃ l n m2 xs, iterL P x m = some l ∧ lenR P Cc x m = .ok (.int n) m2 ∧ n ≤ SZ ∧ m2.list l = some xs ∧ listR P Cc x m = .ok (.ref m2.length) (m2 ++ [.list xs]) := by
  have h0 := h
  unfold listR at h
  split at h
  · rename_i l e1
    split at h
    · rename_i n m2 e2
      split at h
      · rename_i hn
        split at h
        · rename_i xs e3
          refine ⟨l, n, m2, xs, e1, e2, hn, e3, ?_⟩
          unfold listR
          simp only [e1, e2, e3]
          rw [if_pos hn]
        · exact (no h).elim
      · exact (no h).elim
    · exact (no h).elim
  · exact (no h).elim
theorem call_listO (hc : X.calm = true) (hW : W.K = X.K) (hM : ∀ c0 q, P.meth c0 "__len__" = some q → MethOk X W Cc k c0 "__len__" q) (hI : ∀ c0 f, P.iter c0 = some f → IterOk X W c0 f) (hr : Room (k + 4) X.A) : CallR X (.type "list") (rListO P W Cc) := by
  intro pins s σ H xs us Q I rv h
  obtain ⟨ρ, m, v, u, rfl, sm, r, p⟩ := h
  obtain ⟨l, n, m2, ws, e1, e2, hn, e3, e⟩ := listR_of (R := fun r => PV W ρ m.length H r Q) p (fun z => z)
  rw [e] at p
  obtain ⟨j, c, fs, f, xs0, rfl, ek, ei, el, ex⟩ := iterL_of e1
  obtain ⟨_, c', fs', q, n', m2', z1, ek', em, er, h0, h1, e2'⟩ := lenR_of (R := fun r => r ≠ .err) (x := .ref j) (m := m) (P := P) (Cc := Cc) (by rw [e2]; simp) (by simp)
  cases z1
  rw [ek] at ek'
  cases ek'
  rw [e2] at e2'
  cases e2'
  obtain ⟨w, rfl, ru⟩ := vals1 rv
  cases r with
  | ref hj =>
  cases ru
  have hr2 : Room (k + 2) X.A.in1.in1 := hr.in1.in1
  have rw1 : Room 1 X.A.in1.in1 := hr2.mono (by omega)
  refine callType_codes (Q₁ := fun obj s₁ => obj = .ref s.heap.objs.size ∧ s₁ = { s with heap := s.heap.push { cls := .type "list", data := .seq #[] } }) PySem.F.called_list (PySem.F.typeCall_list_1 _) PySem.F.entry_list_init
    (code_list_new _ ⟨rfl, rfl⟩) fun obj s₁ h₁ => ?_
  obtain ⟨rfl, rfl⟩ := h₁
  have hS : (s.heap.push { cls := .type "list", data := .seq #[] }).get? s.heap.objs.size = some { cls := .type "list", data := .seq #[] } := Heap.get?_push_size _ rfl
  refine ⟨⟨_, hS, rfl⟩, PySem.F.args_list_init_2 _ _, ?_⟩
  have fr : H s.heap.objs.size = none := I.hok.fresh (Nat.le_refl _)
  generalize hq : s.heap.objs.size = qa at *
  have I1 : Inv X pins σ (upd H qa (.lst [])) { s with heap := s.heap.push { cls := .type "list", data := .seq #[] } } := by
    rw [← hq]; exact I.lnew (its := []) (t' := s.toks) .nil (Nat.zero_le _)
  show wpAny _ _ (do let old ← Builtin.List.listItems (.ref qa); Builtin.List.listUpdate (.ref qa) (fun _ => #[]); letGo old.toList.reverse; Builtin.List.listExtendWith (.ref qa) (.ref (ρ j)) .none) _ _ _
  refine wpAny_bind ?_
  unfold Builtin.List.listItems
  refine wpAny_bind (wpAny_seqItems hS rfl (wpAny_pure ?_))
  show wpAny _ _ (updateSeq qa (fun _ => #[]) >>= fun _ => letGo (#[] : Array Value).toList.reverse >>= fun _ => Builtin.List.listExtendWith (.ref qa) (.ref (ρ j)) .none) _ _ _
  refine wpAny_bind (wpAny_updateSeq hS rfl ?_)
  have I2 := I1.lset (f := fun _ => #[]) (its := []) (its' := []) (ys := []) (t' := s.toks) upd_same hS rfl .nil (Nat.zero_le _)
  rw [upd_upd] at I2
  refine wpAny_bind (wpAny_letGo ?_)
  -- the extension
  have sm2 : Sim W ρ m (upd H qa (.lst [])) := sm.laid fr
  have x2 : Py.Ext W.K ρ m.length H ρ m.length (upd H qa (.lst [])) := ext_laid fr
  obtain ⟨dx, us, q1, q2, q3, q4⟩ := sm2.inst ek
  have hne : qa ≠ ρ j := ne_of upd_same q1 (fun z => nomatch z)
  obtain ⟨mA, J, _⟩ := ins_get I2.hok q1
  obtain ⟨od, J, _⟩ := J.look
  unfold Builtin.List.listExtendWith
  refine wpAny_bind (J.type.here ?_)
  have g1 : Builtin.List.listSameRef (.ref qa) (.ref (ρ j)) = false := by simp [Builtin.List.listSameRef, hne]
  have g2 : (Value.ref (W.cad c) == Value.type "list") = false := rfl
  have g3 : (Value.ref (W.cad c) == Value.type "tuple") = false := rfl
  simp only [g1, g2, g3, Bool.or_false, Bool.false_eq_true, if_false]
  refine wpAny_bind (iter_at hW hI rw1 rfl I2 sm2 ek ei el ex fun it s3 f3 y3 I3 => ?_)
  have sm3 : Sim W ρ m (upd (upd H qa (.lst [])) it (ItO (ρ l) it 0)) := sm2.laid f3
  have x3 : Py.Ext W.K ρ m.length H ρ m.length (upd (upd H qa (.lst [])) it (ItO (ρ l) it 0)) := x2.trans (ext_laid f3)
  have hqi : qa ≠ it := fun z => by rw [← z, upd_same] at f3; cases f3
  refine wpAny_bind (wpAny_holding (own_hint (A1 := X.A.in1.in1) hW hM ((hr2.in1).mono (by omega)) rfl I3 sm3 ek em er h0 hn fun b s4 H4 ρ4 I4 x4 sm4 => ?_))
  obtain ⟨hl4, _, us4, b1, b2⟩ := sm4.list e3
  have hlm : l < m.length := (sm.list ex).1
  have a4 : ρ4 l = ρ l := x4.agree l hlm
  rw [a4] at b1
  have img : ∀ b, upd (upd H qa (.lst [])) it (ItO (ρ l) it 0) b ≠ none → ∀ i, i < m.length → ρ i = b → H b ≠ none := fun b _ i hi e => by
    obtain ⟨u, hu, _⟩ := sm.obj i m[i] (by simp [hi])
    rw [← e, hu]; simp
  have q4' : H4 qa = some (.lst []) := x4.frame qa _ (by rw [upd_ne hqi, upd_same]) fun i hi e => by
    have := img qa (by rw [upd_ne hqi, upd_same]; simp) i hi e
    exact this fr
  have i4' : H4 it = some (ItO (ρ l) it 0) := x4.frame it _ upd_same fun i hi e => by
    obtain ⟨u, hu, _⟩ := sm2.obj i m[i] (by simp [hi])
    rw [e, f3] at hu
    cases hu
  have nq : ρ l ≠ qa := fun z => by rw [z, q4'] at b1; cases b1; obtain ⟨u, hu, _⟩ := sm.obj l m[l] (by simp [hlm]); rw [z, fr] at hu; cases hu
  have ni : ρ l ≠ it := fun z => by rw [z, i4'] at b1; cases b1
  have hz4 : us4.length ≤ sizeLine := (I4.lstM b1).1
  have fin : ∀ H s, Inv X pins σ H s → (∀ b, b ≠ qa → b ≠ it → H b = H4 b) → H qa = some (.lst us4) → H it ≠ none → EP X pins σ Q (.ref qa) s := fun H5 s5 I5 f5 q5 i5 => by
    have hlen : (m2 ++ [Ob.list ws]).length = m2.length + 1 := by simp
    have H2none : ∀ i, i < m2.length → ρ4 i ≠ qa := fun i hi z => by
      by_cases hi' : i < m.length
      · have e := x4.agree i hi'
        rw [z] at e
        exact img qa (by rw [upd_ne hqi, upd_same]; simp) i hi' e.symm fr
      · have := x4.fresh i (by omega) hi
        rw [z, upd_ne hqi, upd_same] at this
        cases this
    have H2it : ∀ i, i < m2.length → ρ4 i ≠ it := fun i hi z => by
      by_cases hi' : i < m.length
      · obtain ⟨u, hu, _⟩ := sm2.obj i m[i] (by simp [hi'])
        have e := x4.agree i hi'
        rw [z] at e
        rw [← e, f3] at hu
        cases hu
      · have := x4.fresh i (by omega) hi
        rw [z, upd_same] at this
        cases this
    have tr : Tr W.K ρ4 m2.length H4 ρ4 m2.length H5 := by
      refine ⟨Nat.le_refl _, fun _ _ => rfl, fun a xs h => ?_, fun a u st h => ?_⟩
      · rcases h with (h | ⟨ob, h⟩) | h
        · exact .inl (.inl (by rw [f5 a (fun z => by rw [z, q4'] at h; cases h) (fun z => by rw [z, i4'] at h; cases h)]; exact h))
        · exact .inl (.inr ⟨ob, by rw [f5 a (fun z => by rw [z, q4'] at h; cases h) (fun z => by rw [z, i4'] at h; cases h)]; exact h⟩)
        · exact .inr h
      · rw [f5 a (fun z => by rw [z, q4'] at h; cases h; cases st) (fun z => by rw [z, i4'] at h; cases h; cases st)]; exact h
    have tr' : Tr W.K ρ4 m2.length H4 (fun i => if i = m2.length then qa else ρ4 i) (m2.length + 1) H5 := ⟨Nat.le_succ _, fun i hi => if_neg (Nat.ne_of_lt hi), tr.tups, tr.tupt⟩
    have at4 : ∀ i, i < m2.length → H4 (ρ4 i) ≠ none := fun i hi => by
      obtain ⟨u, hu, _⟩ := sm4.obj i m2[i] (by simp [hi])
      rw [hu]; simp
    have smf : Sim W (fun i => if i = m2.length then qa else ρ4 i) (m2 ++ [.list ws]) H5 := by
      refine ⟨fun a b ha hb e => ?_, fun i o h => ?_⟩
      · rw [hlen] at ha hb
        by_cases h1 : a = m2.length
        · by_cases h2 : b = m2.length
          · omega
          · have e' : qa = ρ4 b := by simpa [h1, h2] using e
            exact absurd e'.symm (H2none b (by omega))
        · by_cases h2 : b = m2.length
          · have e' : ρ4 a = qa := by simpa [h1, h2] using e
            exact absurd e' (H2none a (by omega))
          · have e' : ρ4 a = ρ4 b := by simpa [h1, h2] using e
            exact sm4.inj a b (by omega) (by omega) e'
      · rw [hlen]
        by_cases h1 : i < m2.length
        · rw [List.getElem?_append_left h1] at h
          obtain ⟨u, hu, ro⟩ := sm4.obj i o h
          refine ⟨u, ?_, ro.tr tr'⟩
          simp only [if_neg (Nat.ne_of_lt h1)]
          rw [f5 _ (H2none i h1) (H2it i h1)]; exact hu
        · have h2 : i = m2.length := by
            have := (List.getElem?_eq_some_iff.mp h).1
            simp at this; omega
          subst h2
          simp at h
          subst h
          exact ⟨_, by simp only [if_true]; exact q5, .list (b2.tr tr')⟩
    have xf : Py.Ext W.K ρ m.length H (fun i => if i = m2.length then qa else ρ4 i) (m2 ++ [Ob.list ws]).length H5 := by
      have x5 := x3.trans x4
      refine ⟨by rw [hlen]; exact Nat.le_succ_of_le x5.le, fun i hi => by rw [if_neg (Nat.ne_of_lt (Nat.lt_of_lt_of_le hi x5.le))]; exact x5.agree i hi, fun a xs h => tr.tups _ _ (x5.tups a xs h), fun a u k h => tr.tupt _ _ k (x5.tupt a u k h), fun b o h hn => ?_, fun b h => ?_, fun i g1 g2 => ?_⟩
      · have h4 := x5.frame b o h hn
        rw [f5 b (fun z => by rw [z, fr] at h; cases h) (fun z => by
          by_cases zq : it = qa
          · exact hqi zq.symm
          · rw [z] at h; rw [upd_ne zq, h] at f3; cases f3)]
        exact h4
      · have h4 := x5.keep b h
        by_cases z1 : b = qa
        · rw [z1, q5]; simp
        · by_cases z2 : b = it
          · rw [z2]; exact i5
          · rw [f5 b z1 z2]; exact h4
      · rw [hlen] at g2
        by_cases h1 : i = m2.length
        · simp only [h1, if_true]; exact fr
        · simp only [if_neg h1]; exact x5.fresh i g1 (by omega)
    exact ⟨.ref qa, H5, I5, rfl, p _ H5 _ xf smf (by
      have : V.ref qa = V.ref ((fun i => if i = m2.length then qa else ρ4 i) m2.length) := by simp
      rw [this]
      exact .ref (by rw [hlen]; exact Nat.lt_succ_self _))⟩
  have run : ∀ H s, Inv X pins σ H s → (∀ b, b ≠ qa → b ≠ it → H b = H4 b) → H qa = some (.lst []) → H it = some (ItO (ρ l) it 0) → H (ρ l) = some (.lst us4) →
      codeAny (model X.prog X.w) X.A.in1 (.builtin "list.extend.loop" ⟨[.ref qa, .ref it, .none], []⟩) (wants (fun r s₂ => r = .none ∧ EP X pins σ Q (.ref qa) s₂) X.xe) s := fun H s I f0 f1 f2 f3 =>
    Py.own_loop (A1 := X.A.in1) (H0 := H4) (I.ok.hd hc) hqi ni nq hz4 (fun H5 s5 I5 f5 q5 i5 => ⟨rfl, fin H5 s5 I5 f5 q5 i5⟩) us4.length 0 H s (by omega) (Nat.zero_le _) I f0 (by simpa using f1) f2 f3
  refine wpAny_ite_split (fun _ => ?_) (fun _ => wpAny_pure ⟨plainId_quiet PySem.F.plain_extend_loop _, run H4 s4 I4 (fun _ _ _ => rfl) q4' i4' b1⟩)
  refine wpAny_bind (wpAny_rule ?_)
  refine wpAny_bind ?_
  obtain ⟨z, its, k3, r3, hl3, e3⟩ := I4.lstM q4'
  cases r3
  show wpAny _ _ (updateSeq qa (·.push .none) >>= fun _ => updateSeq qa (·.pop)) _ _ _
  refine wpAny_bind (wpAny_updateSeq e3 rfl ?_)
  have I5 := I4.lset (f := (·.push Value.none)) (its' := [Value.none]) (ys := [.non]) (t' := s4.toks) q4' e3 (by simp) (.cons rfl .nil) (by rw [List.length_singleton, sizeLine_eq]; decide)
  obtain ⟨z4, its4, k4, r4, hl4, e4⟩ := I5.lstM upd_same
  obtain ⟨u4, rfl, ru4⟩ := r4.one
  refine wpAny_updateSeq e4 rfl ?_ (by show 1 ≤ sizeLine; rw [sizeLine_eq]; decide) (by show 0 ≤ sizeLine + 1; exact Nat.zero_le _)
  have I6 := I5.lset (f := (·.pop)) (its := [u4]) (its' := []) (ys := []) (t' := s4.toks) upd_same e4 (by rfl) .nil (Nat.zero_le _)
  rw [upd_upd] at I6
  refine wpAny_pure ⟨plainId_quiet PySem.F.plain_extend_loop _, run _ _ I6 (fun b h1 h2 => by rw [upd_ne h1]) upd_same (by rw [upd_ne (Ne.symm hqi)]; exact i4') (by rw [upd_ne nq]; exact b1)⟩
end
end Py

namespace Py
open PySem PySem.Spec PyProof.Rows L2

theorem lenR_nx {P : Prog} {Cc : Calls} {x : Val} {m m' : Mem} {c : PySem.Str} {fs} : lenR P Cc x m ≠ .exc c fs m' := by
  unfold lenR; split <;> (try split) <;> (try split) <;> (try split) <;> (try split) <;> simp
theorem listR_nx {P : Prog} {Cc : Calls} {x : Val} {m m' : Mem} {c : PySem.Str} {fs} : listR P Cc x m ≠ .exc c fs m' := by
  unfold listR; split <;> (try split) <;> (try split) <;> (try split) <;> simp

section
variable {X : Cx} {W : Wd} {wx : WX} {P : Prog} {Cc : Calls} {k : Nat} {a o : Expr} {fa fo : Loc → Mem → Res Val} {p pos apos : Pos}
theorem se_lenO (hW : W.K = X.K) (hM : ∀ c0 q, P.meth c0 "__len__" = some q → MethOk X W Cc k c0 "__len__" q) (hr : Room (k + 1) X.A) (hg : Gl X "len") (hm : X.mg "len" = none) (he : starEach [a] X.env = (false, eval a X.env) :: starEach [] X.env) (ha : SE X W wx a fa) :
    SE X W wx (.Call (.Name "len" p) [a] [] pos) (fun l m => (fa l m).bind fun x m1 => lenR P Cc x m1) := by
  obtain ⟨ta, pa, qa⟩ := ha.ex
  refine ⟨_, pe_callB (call_lenO hW hM hr) hg hm (by decide +kernel) (pa_cons pa pa_nil he) (by decide +kernel) (by decide +kernel) he rfl, fun σ H ρ l m Q ss s p => ?_⟩
  exact qa σ H ρ l m _ ss s ((Post.bind ss p).mono fun u H1 ⟨x, m1, ρ1, A, p1⟩ => ⟨ρ1, m1, x, u, rfl, A.sim, A.rep, p1.nx fun _ _ _ => lenR_nx⟩)
theorem se_listO (hc : X.calm = true) (hW : W.K = X.K) (hM : ∀ c0 q, P.meth c0 "__len__" = some q → MethOk X W Cc k c0 "__len__" q) (hI : ∀ c0 f, P.iter c0 = some f → IterOk X W c0 f) (hr : Room (k + 4) X.A) (hg : Gl X "list") (hm : X.mg "list" = none)
    (he : starEach [a] X.env = (false, eval a X.env) :: starEach [] X.env) (ha : SE X W wx a fa) :
    SE X W wx (.Call (.Name "list" p) [a] [] pos) (fun l m => (fa l m).bind fun x m1 => listR P Cc x m1) := by
  obtain ⟨ta, pa, qa⟩ := ha.ex
  refine ⟨_, pe_callTy (call_listO hc hW hM hI hr) hg hm (by decide +kernel) (pa_cons pa pa_nil he) (by decide +kernel) (by decide +kernel) he rfl, fun σ H ρ l m Q ss s p => ?_⟩
  exact qa σ H ρ l m _ ss s ((Post.bind ss p).mono fun u H1 ⟨x, m1, ρ1, A, p1⟩ => ⟨ρ1, m1, x, u, rfl, A.sim, A.rep, p1.nx fun _ _ _ => listR_nx⟩)

/-! join -/
theorem strs_of {K : PySem.W.Frag} {ρ : Nat → Addr} {n : Nat} {H : Hp} : ∀ {xs : List Val} {us : List V} {ys : List (List Nat)}, RepL K ρ n H xs us → strsOf xs = some ys → us = (ys.map sv).map V.str ∧ ∀ y ∈ ys, okS y = true
  | _, _, ys, .nil, e => by cases e; exact ⟨rfl, fun y hy => by cases hy⟩
  | _, _, ys, .cons h t, e => by
    cases h with
    | str s hs =>
      simp only [strsOf] at e
      obtain ⟨zs, e1, e2⟩ := Option.map_eq_some_iff.mp e
      subst e2
      obtain ⟨a, b⟩ := strs_of t e1
      rw [a]
      refine ⟨rfl, fun y hy => ?_⟩
      rcases List.mem_cons.mp hy with h | h
      · rw [h]; exact hs
      · exact b y h
    | _ => simp [strsOf] at e
theorem join_tl (s : List Nat) : ∀ ys : List (List Nat), TL.joinL s ys = joinL s ys
  | [] => rfl
  | [x] => rfl
  | x :: y :: r => by
    unfold TL.joinL joinL
    rw [join_tl s (y :: r), List.append_assoc]
theorem join_sv (s : List Nat) (ys : List (List Nat)) : Txt.join (sv s) (ys.map sv) = sv (joinL s ys) := by
  rw [TL.join_eq, ← sv_of (PySem.Str.join (sv s) (ys.map sv))]
  have h := TL.tl_join (sv s) (ys.map sv)
  rw [List.map_map] at h
  have e : (TL.tl ∘ sv) = id := by funext z; exact sv_list z
  rw [e, List.map_id, join_tl] at h
  have h2 : (PySem.Str.join (sv s) (ys.map sv)).cps.toList = joinL (sv s).cps.toList ys := h
  rw [h2, sv_list]
theorem okS_join {s : List Nat} (hs : okS s = true) : ∀ ys : List (List Nat), (∀ y ∈ ys, okS y = true) → okS (joinL s ys) = true
  | [], _ => rfl
  | [x], h => h x List.mem_cons_self
  | x :: y :: r, h => by
    unfold joinL
    exact okS_app (okS_app (h x List.mem_cons_self) hs) (okS_join hs (y :: r) fun z hz => h z (List.mem_cons_of_mem _ hz))
theorem se_join (hW : W.K = X.K) (hb : attributeBase o "join" X.env (eval o X.env) = eval o X.env) (hl : (apos.endLine == pos.line) = true) (he : starEach [a] X.env = [(false, eval a X.env)]) (ho : SE X W wx o fo) (ha : SE X W wx a fa) :
    SE X W wx (.Call (.Attribute o "join" apos) [a] [] pos) (fun l m => gc m ((fo l m).bind fun x m1 => strR x fun s => (fa l m1).bind fun y m2 => joinR s y m2)) := by
  obtain ⟨to, po, qo⟩ := ho.ex
  obtain ⟨ta, pa, qa⟩ := ha.ex
  refine ⟨_, pe_join po pa he hb hl, fun σ H ρ l m Q ss s p => ?_⟩
  refine qo σ H ρ l m _ ss s ((Post.bind ss (gc_ok s p)).mono fun u H1 ⟨x, m1, ρ1, A, p1⟩ => ?_)
  unfold strR at p1
  split at p1
  · rename_i t
    have rA := A.rep
    cases rA with
    | str _ hs =>
    refine ⟨⟨sv t, rfl⟩, qa σ H1 ρ1 l m1 _ A.ss A.sim ((Post.bind A.ss p1).mono fun w H2 ⟨y, m2, ρ2, B, p2⟩ => ?_)⟩
    unfold joinR at p2
    split at p2
    · rename_i ys e
      split at p2
      · rename_i hz
        obtain ⟨xs, e1, e2⟩ := Option.bind_eq_some_iff.mp e
        obtain ⟨b, us, e3, e4, rl⟩ := B.sim.seq B.rep e1
        obtain ⟨e5, e6⟩ := strs_of rl e2
        subst e3 e5
        refine ⟨sv t, b, ys.map sv, rfl, rfl, by rw [← hW]; exact e4, ?_, ?_⟩
        · rw [sv_len, List.length_map, List.map_map]
          have : ((fun x : PySem.Str => x.length) ∘ sv) = List.length := by funext z; exact sv_len z
          rw [this]; exact hz
        · rw [join_sv]
          exact B.sim.one p2 (.str _ (okS_join hs ys e6))
      · exact p2.elim
    · exact p2.elim
  · exact p1.elim

/-! a field or a property -/
def PropOk (X : Cx) (W : Wd) (Cc : Calls) (k : Nat) (c0 f q : PySem.Str) : Prop :=
  ∃ p g fd ps, PropOf X.K (W.cad c0) f p g ∧ FnOk X.prog X.w X.K X.mg X.base (L2.CX X.prog X.w) k g fd ps (spC W Cc q) ∧ Binds X.K fd ps []
theorem se_attrP (hW : W.K = X.K) {fn : PySem.Str} (hb : attributeBase o fn X.env (eval o X.env) = eval o X.env) (hP : ∀ c0 q, P.prop c0 fn = some q → PropOk X W Cc k c0 fn q) (hr : Room (k + 1) X.A) (ho : SE X W wx o fo) :
    SE X W wx (.Attribute o fn pos) (fun l m => (fo l m).bind fun x m1 => attrP P Cc fn x m1) := by
  obtain ⟨to, po, qo⟩ := ho.ex
  refine ⟨fun σ H Q => ∀ pins s, Inv X pins σ H s → to σ H fun x H1 => ∃ a, x = .ref a ∧ ∀ s1, Inv X pins σ H1 s1 → wpAny (model X.prog X.w) X.A (getAttr (.ref a) fn true) (EP X pins σ Q) X.xe s1, ⟨fun pins s σ H Q I h => ?_⟩, fun σ H ρ l m Q ss s p pins s0 I0 => ?_⟩
  · refine attr_of hb (thn (po.run pins s σ H _ I (h pins s I)) fun u s1 ⟨x, H1, I1, rx, a, ex, q⟩ => ?_)
    subst ex
    obtain rfl : u = Value.ref a := rx
    exact q s1 I1
  · refine qo σ H ρ l m _ ss s ((Post.bind ss p).mono fun u H1 ⟨x, m1, ρ1, A, p1⟩ => ?_)
    unfold attrP at p1
    split at p1
    · rename_i j
      split at p1
      · rename_i c0 fs ek
        obtain ⟨dx, us, q1, q2, q3, q4⟩ := A.sim.inst ek
        have rA := A.rep
        cases rA with
        | ref hj =>
        split at p1
        · rename_i q ep
          obtain ⟨p0, g, fd, ps, M, F, B⟩ := hP c0 q ep
          refine ⟨_, rfl, fun s1 I1 => ?_⟩
          split at p1
          · rename_i v m2 er
            refine getprop_ok (dvs := []) (ds := []) (E := NoE) I1 q1 (by rw [← hW]; exact q3) M F hr B .nil (fun _ _ _ _ _ _ _ ⟨_, _, _, _, _, _, _, _, _, _, _, _, z⟩ => z.elim) ⟨ρ1, m1, [.ref j], A.sim, .cons (.ref hj) .nil, ?_⟩
            rw [er]
            exact p1
          · exact p1.elim
        · split at p1
          · rename_i v ev
            obtain ⟨w, w1, w2⟩ := (q2.get fn).1 v ev
            refine ⟨_, rfl, fun s1 I1 => getattr_ok I1 q1 (by rw [← hW]; exact q3) (by rw [← hW]; exact q4 fn w w1) w1 fun u' s2 I2 ru => ⟨w, H1, I2, ru, A.sim.one p1 w2⟩⟩
          · exact p1.elim
      · exact p1.elim
    · exact p1.elim

/-! a walk by one's own __iter__ -/
theorem si_own {tg iter : Expr} (hW : W.K = X.K) (hI : ∀ c0 f, P.iter c0 = some f → IterOk X W c0 f) (hr : Room 1 X.A) (ho : SE X W wx iter fo) : SI X W wx tg iter (fun l m => (fo l m).bind fun x m1 => ownR P x m1) := by
  obtain ⟨to, po, qo⟩ := ho.ex
  refine ⟨fun σ H R => ∀ pins s, Inv X pins σ H s → to σ H fun x H1 => ∃ a, x = .ref a ∧ ∀ s1, Inv X pins σ H1 s1 → wpAny (model X.prog X.w) X.A (pyIter (.ref a)) (PIE X pins σ tg R) X.xe s1, ⟨fun pins s σ H R I h => ?_⟩, fun σ H ρ l m R ss s p pins s0 I0 => ?_⟩
  · refine thn (po.run pins s σ H _ I (h pins s I)) fun u s1 ⟨x, H1, I1, rx, a, ex, q⟩ => ?_
    subst ex
    obtain rfl : u = Value.ref a := rx
    exact q s1 I1
  · refine qo σ H ρ l m _ ss s ((Post.bindI ss p).mono fun u H1 ⟨x, m1, ρ1, A, p1⟩ => ?_)
    unfold ownR at p1
    split at p1
    · rename_i l1 e1
      split at p1
      · rename_i xs e2
        obtain ⟨j, c, fs, f, xs0, rfl, ek, ei, el, ex⟩ := iterL_of e1
        rw [e2] at ex
        cases ex
        have rA := A.rep
        cases rA with
        | ref hj =>
        refine ⟨_, rfl, fun s1 I1 => iter_at hW hI hr rfl I1 A.sim ek ei el e2 fun it s2 f2 y2 I2 => ?_⟩
        have eo := itO_get I2 upd_same
        have st : s2.heap.IsListIter it (ρ1 l1) 0 := ⟨_, eo, rfl, rfl⟩
        have I3 := ItX.inv_drop I2 upd_same
        rw [ItX.dropH_upd f2] at I3
        refine ⟨it, [it], _, _, H1, rfl, I3, turn_list (ρ1 l1) it, st, fun b hb => ?_, p1 ρ1 H1 _ Py.Ext.refl A.sim (by rw [← hW]; exact walks_list A.sim e2)⟩
        have e : b = it := by simpa using hb
        rw [e]
        have z := ItX.inv_fp I2 upd_same (Nat.le_trans I1.sz y2)
        rw [ItX.dropH_upd f2] at z
        exact z
      · exact p1.elim
    · exact p1.elim
end

/-! ### the def of such an __iter__ -/
def isGlS (sc : Scope) (x : PySem.Str) : Bool := match sc.names.lookup x with
  | some .globalImplicit => true
  | _ => false
def chkIter (fre : List PySem.Str) (sc : Scope) (b : List Stmt) (f : PySem.Str) : Bool := match b with
  | [.Return (some (.Call (.Name g _) [.Attribute (.Name x _) h _] [] _)) _] => decide (g = "iter") && decide (x = "self") && decide (h = f) && isGlS sc "iter" && fre.contains ("iter" : PySem.Str)
  | _ => false
theorem fnIt_ok {P : Program} {w : World} {K : PySem.W.Frag} {mg : PySem.Str → Option Value} {base : Heap} {x qual f : PySem.Str} {params : Arguments} {body : List Stmt} {scope : Scope} {g : Addr} {fd : FuncData} {N : List PySem.Str} {fre : List PySem.Str}
    (F : FunD K x qual params body scope [] [] g fd) (S : FnScope N ["self"] scope) (hN : N[0]? = some ("self" : PySem.Str)) (hc : chkIter fre scope body f = true) (hfre : ∀ x, fre.contains x = true → mg x = none) : FnIt P w K mg base g fd f := by
  obtain ⟨oc, od, dV, kV, doc, pm, an, cdv, ct, osl, rfl, lk, hcd, _, _⟩ := F.ex
  unfold chkIter at hc
  split at hc
  · rename_i g0 p0 x0 p1 h0 p2 p3 p4
    simp only [Bool.and_eq_true] at hc
    obtain ⟨⟨⟨⟨c1, c2⟩, c3⟩, c4⟩, c5⟩ := hc
    have c1 := of_decide_eq_true c1
    have c2 := of_decide_eq_true c2
    have c3 := of_decide_eq_true c3
    subst c1 c2 c3
    intro A outer s H args us vs Q hr e0 hb r hsp
    have hl : vs.length = [("self" : PySem.Str)].length := by
      obtain ⟨_, _, _, _, _, _, e, _⟩ := hsp
      rw [e]; rfl
    have KX : K.In s.heap := e0.mod.kin.keeps fun b o e => (e0.bs b o e).1
    have lim : s.heap.NoLimit := e0.mod.nolimit.keeps fun b o e => (e0.bs b o e).1
    have hkind : ∀ y ∈ [("self" : PySem.Str)].zip us, scope.names.lookup y.1 = some .local ∨ (scope.names.lookup y.1 = some .cell ∧ ((cellsFrom (s.heap.objs.size + 1) scope.names []).lookup y.1).isSome = true) := fun ⟨n, v⟩ hy => by
      rcases S.par n (List.of_mem_zip hy).1 with q | q
      · exact .inl q
      · exact .inr ⟨q, PySem.W.cellsFrom_some _ _ _ (.inl q)⟩
    refine codeAny_call_function hr.depth (KX _ _ lk) rfl S.co S.gen rfl (PySem.W.codeRec_of KX hcd) (hb _ _ _ _ ?_)
    refine wpAny_newFunctionEnv_cells S.kind hkind fun env he s1 y => ?_
    subst he
    refine ⟨lim.keeps y.toInCall.keep, codeAny_func ?_⟩
    have I : Inv (cxOf (L2.CX P w) P w K mg base N qual scope g cdv A outer s H NoE) [] (L2.start N vs) H s1 := inv_start S hr.hd e0 hl r y
    have hgl : Gl (cxOf (L2.CX P w) P w K mg base N qual scope g cdv A outer s H NoE) "iter" := by
      unfold isGlS at c4
      split at c4
      · assumption
      · cases c4
    have hvis : Vis (cxOf (L2.CX P w) P w K mg base N qual scope g cdv A outer s H NoE).env.scope "self" := (S.par "self" (List.Mem.head _)).elim (fun z => .inl z) (fun z => .inr (.inl z))
    have pr : PE (cxOf (L2.CX P w) P w K mg base N qual scope g cdv A outer s H NoE) (.Call (.Name "iter" p0) [.Attribute (.Name "self" p1) h0 p2] [] p3) _ :=
      pe_callB ItX.call_iterN hgl (hfre _ c5) (by decide +kernel) (pa_cons (pe_fld (pe_var (i := 0) hN hvis) rfl) pa_nil rfl) (by decide +kernel) (by decide +kernel)
    refine wpAny_mono ((pss_one (ps_ret (pos := p4) pr)).run [] s1 (L2.start N vs) H { nx := fun _ H' => Q .non H', rt := Q } I ?_) (fun fl s' hs => ?_) fun e s' hs => ?_
    · obtain ⟨a, C, dx, fs, l, xs, ev, ea, cC, nC, el, hq, q⟩ := hsp
      subst ev
      have hNe : ∃ r, N = ("self" : PySem.Str) :: r := by
        cases N with
        | nil => simp at hN
        | cons y ys => simp at hN; exact ⟨ys, by rw [hN]⟩
      obtain ⟨rest, eN⟩ := hNe
      have h00 : (L2.start N [V.ref a])[0]? = some (some (V.ref a)) := by
        rw [eN]; simp [L2.start]
      exact ⟨.ref a, h00, a, C, dx, fs, .ref l, rfl, ea, cC, nC, el, l, xs, rfl, hq, fun it h1 h2 => q it h1 h2⟩
    · have fin : ∀ {σ' : L2.St} {H' : Hp} {v : V} {u : Value}, Inv (cxOf (L2.CX P w) P w K mg base N qual scope g cdv A outer s H NoE) [] σ' H' s' → RelV v u → Q v H' → CE outer P w H s Q u s' :=
        fun {σ' H' v u} J rv q => ⟨v, H', J.os, J.bare, J.base, J.hok, rv, q⟩
      cases fl with
      | ret u =>
        obtain ⟨v, σ', H', J, rv, q⟩ := hs
        exact fin J rv q
      | next =>
        obtain ⟨σ', H', J, q⟩ := hs
        exact fin (v := V.non) (u := Value.none) J rfl q
      | brk =>
        obtain ⟨_, _, _, q⟩ := hs
        exact False.elim q
      | cont =>
        obtain ⟨_, _, _, q⟩ := hs
        exact False.elim q
    · refine wpAny_mono hs (fun a s' z => ?_) fun a s' z => ?_
      · obtain ⟨_, _, _, _, _, _, _, _, _, _, _, _, z⟩ := z
        exact z.elim
      · obtain ⟨_, _, _, _, _, _, _, _, _, _, _, _, z⟩ := z
        exact z.elim
  · cases hc
end Py

namespace Py
open PySem PySem.Spec PyProof.Rows L2

section
variable {K : PySem.W.Frag} {ρ ρ' ρ1 : Nat → Addr} {n n' n1 : Nat} {H H' H1 : Hp} {D : Addr} {o o' : HO}
/-- a thing of one's own, that no cell is, is changed -/
theorem Ext.own (x : Ext K ρ1 n1 H1 ρ n H) (h1 : H1 D = none) : Ext K ρ1 n1 H1 ρ n (upd H D o) where
  le := x.le
  agree := x.agree
  tups := fun a xs h => by
    have h' := x.tups a xs h
    have ne : ∀ {u : HO}, H1 a = some u → a ≠ D := fun e q => by rw [q, h1] at e; cases e
    rcases h with (h | ⟨ob, h⟩) | h
    · refine .inl (.inl ?_)
      rw [upd_ne (ne h)]
      exact x.tupt a _ (.tup xs) h
    · rcases h' with (h' | ⟨ob', h'⟩) | h'
      · exact .inl (.inl (by rw [upd_ne (ne h)]; exact h'))
      · exact .inl (.inr ⟨ob', by rw [upd_ne (ne h)]; exact h'⟩)
      · exact .inr h'
    · exact .inr h
  tupt := fun a u k h => by
    rw [upd_ne (fun q => by rw [q, h1] at h; cases h)]
    exact x.tupt a u k h
  frame := fun b u h hn => by
    rw [upd_ne (fun q => by rw [q, h1] at h; cases h)]
    exact x.frame b u h hn
  keep := fun b h => by
    by_cases e : b = D
    · rw [e, upd_same]; simp
    · rw [upd_ne e]; exact x.keep b h
  fresh := x.fresh
/-- the same from the state itself, as far as values go -/
theorem Tr.own {xs : List V} (h : H D = some (.lst xs)) : Tr K ρ n H ρ n (upd H D o) where
  le := Nat.le_refl _
  agree := fun _ _ => rfl
  tups := fun a ys h' => by
    rcases h' with (h' | ⟨ob, h'⟩) | h'
    · exact .inl (.inl (by rw [upd_ne (fun q => by rw [q, h] at h'; cases h')]; exact h'))
    · exact .inl (.inr ⟨ob, by rw [upd_ne (fun q => by rw [q, h] at h'; cases h')]; exact h'⟩)
    · exact .inr h'
  tupt := fun a u z h' => by rw [upd_ne (fun q => by rw [q, h] at h'; cases h'; cases z)]; exact h'
theorem Sim.own {W : Wd} {m : Mem} {xs : List V} (s : Sim W ρ m H) (h : H D = some (.lst xs)) (hD : ∀ i, i < m.length → ρ i ≠ D) : Sim W ρ m (upd H D o) :=
  ⟨s.inj, fun i ob q => by
    obtain ⟨u, a, b⟩ := s.obj i ob q
    have hi := (List.getElem?_eq_some_iff.mp q).1
    exact ⟨u, by rw [upd_ne (hD i hi)]; exact a, b.tr (Tr.own h)⟩⟩
theorem Ext.apart (x : Ext K ρ n H ρ' n' H') (h : H D = some o) (hD : ∀ i, i < n → ρ i ≠ D) : H' D = some o ∧ ∀ i, i < n' → ρ' i ≠ D := by
  refine ⟨x.frame D o h hD, fun i hi => ?_⟩
  by_cases q : i < n
  · rw [x.agree i q]; exact hD i q
  · intro e
    have := x.fresh i (Nat.le_of_not_lt q) hi
    rw [e, h] at this; cases this
theorem yld_ext {W : Wd} {m : Mem} {σ : L2.St} {l : Py.Loc} (s : Sim W ρ m H) (ss : SimS W.K ρ m.length H l σ) (h : H' = H ∨ ∃ p o, H p = none ∧ H' = upd H p o) : Ext W.K ρ m.length H ρ m.length H' ∧ Sim W ρ m H' := by
  rcases h with e | ⟨p, o, hp, e⟩
  · subst e; exact ⟨Ext.refl, s⟩
  · subst e; exact ⟨ext_laid hp, s.laid hp⟩
end

/-- the state of a comprehension at its turn i -/
structure CInv (W : Wd) (σ : L2.St) (l : Py.Loc) (chk : Option (Nat × List Val)) (el : Val → Mem → Res (Option Val)) (xs T : List Val) (mF : Mem) (ρ1 : Nat → Addr) (n1 : Nat) (H1 : Hp) (D : Addr) (i : Nat) (H : Hp) (ρ : Nat → Addr) (m : Mem) (acc ys : List Val) (accV : List V) : Prop where
  ext : Ext W.K ρ1 n1 H1 ρ m.length H
  sim : Sim W ρ m H
  ss : SimS W.K ρ m.length H l σ
  at_ : H D = some (.lst accV)
  rep : RepL W.K ρ m.length H acc accV
  far : ∀ i, i < m.length → ρ i ≠ D
  run : compLoop chk el (xs.drop i) m = .ok ys mF
  all : acc ++ ys = T
section
variable {X : Cx} {W : Wd} {wx : WX} {elt iter tg : Expr} {fi : Py.Loc → Mem → Res (List Val × Option (Nat × List Val))} {t : Tg} {pos : Pos} {scope : Scope} {own : List (PySem.Str × Nat)}
theorem CInv.ends {σ : L2.St} {l : Py.Loc} {chk el xs T mF ρ1 n1 H1 D H ρ m acc ys accV} {Q : VK} (c : CInv W σ l chk el xs T mF ρ1 n1 H1 D xs.length H ρ m acc ys accV) (h1 : H1 D = none)
    (p : Post W wx σ ρ1 n1 H1 (.ok (.ref mF.length) (mF ++ [.list T])) Q) : still chk m ∧ Q (.ref D) H := by
  have e := c.run
  rw [List.drop_length] at e
  unfold compLoop at e
  split at e
  · rename_i st
    cases e
    have ea := c.all
    rw [List.append_nil] at ea
    subst ea
    refine ⟨st, ?_⟩
    have el : (mF ++ [Ob.list acc]).length = mF.length + 1 := by simp
    let ρ2 : Nat → Addr := fun i => if i = mF.length then D else ρ i
    have a2 : ∀ i, i < mF.length → ρ2 i = ρ i := fun i hi => if_neg (Nat.ne_of_lt hi)
    have a3 : ρ2 mF.length = D := if_pos rfl
    have tr : Tr W.K ρ mF.length H ρ2 (mF.length + 1) H := ⟨Nat.le_succ _, a2, fun _ _ h => h, fun _ _ _ h => h⟩
    refine p ρ2 H (.ref D) ⟨by rw [el]; exact Nat.le_trans c.ext.le (Nat.le_succ _), fun i hi => (a2 i (Nat.lt_of_lt_of_le hi c.ext.le)).trans (c.ext.agree i hi), c.ext.tups, c.ext.tupt, c.ext.frame, c.ext.keep, fun i hi hj => ?_⟩ ⟨fun i j hi hj e => ?_, fun i ob q => ?_⟩ ?_
    · rw [el] at hj
      by_cases q : i = mF.length
      · rw [q, a3]; exact h1
      · rw [a2 i (by omega)]; exact c.ext.fresh i hi (by omega)
    · rw [el] at hi hj
      by_cases q1 : i = mF.length
      · by_cases q2 : j = mF.length
        · omega
        · exfalso
          rw [q1, a3, a2 j (by omega)] at e
          exact c.far j (by omega) e.symm
      · by_cases q2 : j = mF.length
        · exfalso
          rw [q2, a3, a2 i (by omega)] at e
          exact c.far i (by omega) e
        · rw [a2 i (by omega), a2 j (by omega)] at e
          exact c.sim.inj i j (by omega) (by omega) e
    · rw [el]
      by_cases q1 : i < mF.length
      · rw [List.getElem?_append_left q1] at q
        obtain ⟨u, a, b⟩ := c.sim.obj i ob q
        exact ⟨u, by rw [a2 i q1]; exact a, b.tr tr⟩
      · have q2 : i = mF.length := by
          have := (List.getElem?_eq_some_iff.mp q).1
          rw [el] at this; omega
        subst q2
        simp at q
        subst q
        exact ⟨_, by rw [a3]; exact c.at_, .list (c.rep.tr tr)⟩
    · rw [← a3, el]
      exact .ref (Nat.lt_succ_self _)
  · cases e
/-- the turn -/
theorem CInv.turn {σ : L2.St} {l : Py.Loc} {chk el xs T mF ρ1 n1 H1 D i H ρ m acc ys accV v} (c : CInv W σ l chk el xs T mF ρ1 n1 H1 D i H ρ m acc ys accV) (hv : xs[i]? = some v) :
    still chk m ∧ ∃ o m1 zs, el v m = .ok o m1 ∧ compLoop chk el (xs.drop (i + 1)) m1 = .ok zs mF ∧ ys = o.toList ++ zs := by
  obtain ⟨hi, ev⟩ := List.getElem?_eq_some_iff.mp hv
  have e := c.run
  rw [List.drop_eq_getElem_cons hi, ev] at e
  unfold compLoop at e
  split at e
  · rename_i st
    refine ⟨st, ?_⟩
    cases e1 : el v m with
    | ok o m1 =>
      rw [e1] at e
      simp only [Res.bind] at e
      cases e2 : compLoop chk el (xs.drop (i + 1)) m1 with
      | ok zs m2 =>
        rw [e2] at e
        simp only [Res.ok.injEq] at e
        exact ⟨o, m1, zs, rfl, by rw [← e.2]; exact e2, e.1.symm⟩
      | exc _ _ _ => rw [e2] at e; cases e
      | err => rw [e2] at e; cases e
    | exc _ _ _ => rw [e1] at e; cases e
    | err => rw [e1] at e; cases e
  · cases e
theorem wipe_eq : ∀ {vs : List Nat} {σ σ2 : L2.St}, σ2.length = σ.length → (∀ i, i ∉ vs → σ2[i]? = (wipe σ vs)[i]?) → wipe σ2 vs = wipe σ vs := fun {vs σ σ2} hl h => by
  refine List.ext_getElem? fun i => ?_
  by_cases hi : i ∈ vs
  · have z : ∀ (τ : L2.St) (ws : List Nat), i ∈ ws → (wipe τ ws)[i]? = if i < τ.length then some none else none := fun τ ws => by
      induction ws with
      | nil => intro h; cases h
      | cons w ws ih =>
        intro hm
        unfold wipe
        rw [List.getElem?_set]
        by_cases e : w = i
        · subst e
          rw [if_pos rfl, wipe_length]
        · rw [if_neg e]
          exact ih ((List.mem_cons.mp hm).resolve_left fun q => e q.symm)
    rw [z σ2 vs hi, z σ vs hi, hl]
  · have z : ∀ (τ : L2.St) (ws : List Nat), i ∉ ws → (wipe τ ws)[i]? = τ[i]? := fun τ ws => by
      induction ws with
      | nil => intro _; rfl
      | cons w ws ih =>
        intro hm
        rw [List.mem_cons, not_or] at hm
        unfold wipe
        rw [List.getElem?_set_ne (fun e => hm.1 e.symm)]
        exact ih hm.2
    rw [z σ2 vs hi, h i hi]
theorem SimS.wipe {K : PySem.W.Frag} {ρ : Nat → Addr} {n : Nat} {H : Hp} {l : Py.Loc} {σ : L2.St} (s : SimS K ρ n H l σ) : ∀ vs : List Nat, SimS K ρ n H (wipeL l vs) (L2.wipe σ vs)
  | [] => s
  | v :: vs => by
    have ih := s.wipe vs
    unfold wipeL L2.wipe
    refine ⟨by simp [ih.len], fun i w h => ?_⟩
    by_cases e : v = i
    · subst e
      rw [List.getElem?_set] at h
      split at h
      · split at h <;> cases h
      · rename_i h0; exact absurd rfl h0
    · rw [List.getElem?_set_ne e] at h
      obtain ⟨u, a, b⟩ := ih.get i w h
      exact ⟨u, by rw [List.getElem?_set_ne e]; exact a, b⟩
/-- a comprehension's tests: none, or one -/
def tTests (W : Wd) (fc : Option (Py.Loc → Mem → Res Val)) : TT := match fc with
  | none => tYes
  | some f => tSemT W (fun _ _ _ _ => False) f
def elOf (t : Tg) (l : Py.Loc) (fc : Option (Py.Loc → Mem → Res Val)) (fe : Py.Loc → Mem → Res Val) : Val → Mem → Res (Option Val) := match fc with
  | none => compEl t l fe
  | some c => compElIf t l c fe
theorem se_compG {ifs : List Expr} {fc : Option (Py.Loc → Mem → Res Val)} {fe : Py.Loc → Mem → Res Val} (hc : X.calm = true) (hN : X.N.Nodup) (hi : SI X W wx tg iter fi) (ok : BlkOk X.N X.env.scope scope own) (hown : own.map (·.2) = t.slots)
    (hg : ∀ (s : Shared) (H : Hp) (C : Addr) (cl : List (PySem.Str × Addr)) (fp : List Addr), PG (X.blk s H scope (compEnvC scope cl C X.env) fp) tg (gSem W t))
    (ht : ∀ (s : Shared) (H : Hp) (C : Addr) (cl : List (PySem.Str × Addr)) (fp : List Addr), PTs (X.blk s H scope (compEnvC scope cl C X.env) fp) ifs (tTests W fc))
    (he : ∀ (s : Shared) (H : Hp) (C : Addr) (cl : List (PySem.Str × Addr)) (fp : List Addr), PE (X.blk s H scope (compEnvC scope cl C X.env) fp) elt (tSem W (fun _ _ _ _ => False) fe))
    (hs : ∀ x, foldedSetIterable iter X.env x = pure x) :
    (∃ t' : TE, PE X (.ListComp elt [⟨tg, iter, ifs, 0⟩] scope pos) t' ∧
      (∀ {i : Nat} {y : PySem.Str} {py spos : Pos}, X.N[i]? = some y → X.env.scope.names.lookup y = some .local → swapsWith (.ListComp elt [⟨tg, iter, ifs, 0⟩] scope pos) (some (.Name y py)) spos.line X.env = pure true →
        PS X (.Assign [.Name y py] (.ListComp elt [⟨tg, iter, ifs, 0⟩] scope pos) spos) (tAsg t' (gName i))) ∧
      ∀ (σ : L2.St) (H : Hp) (ρ : Nat → Addr) (l : Py.Loc) (m : Mem) (Q : VK), SimS W.K ρ m.length H l σ → Sim W ρ m H → Post W wx σ ρ m.length H ((fi l m).bind fun w m1 => compEnd (compLoop w.2 (elOf t l fc fe) w.1 m1)) Q → t' σ H Q) := by
  obtain ⟨wi, pi, qi⟩ := hi.ex
  refine ⟨_, pe_lc hc hN pi ok hg ht he hs, fun {i y py spos} h1 h2 h3 => ps_setLc hc hN h1 h2 h3 pi ok hg ht he hs, fun σ H ρ l m Q ss s p => ?_⟩
  rw [hown]
  refine qi σ H ρ l m _ ss s ?_
  cases e1 : fi l m with
  | err => rw [e1] at p; exact p.elim
  | exc c fs m1 => rw [e1] at p; exact p
  | ok w m1 =>
    rw [e1] at p
    obtain ⟨xs, chk⟩ := w
    have p' : Post W wx σ ρ m.length H (compEnd (compLoop chk (elOf t l fc fe) xs m1)) Q := p
    intro ρ1 H1 J x1 s1 wk D hD
    have p1 := p'.ext x1
    cases e2 : compLoop chk (elOf t l fc fe) xs m1 with
    | err => rw [e2] at p1; exact p1.elim
    | exc _ _ _ => rw [e2] at p1; exact p1.elim
    | ok T mF =>
      rw [e2] at p1
      unfold compEnd at p1
      split at p1
      · rename_i ys' m' hT ee
        cases ee
        split at p1
        · rename_i hTl
          have ss1 := ss.ext x1
          refine ⟨fun i n H => n = xs.length - i ∧ i ≤ xs.length ∧ ∃ ρ m acc ys accV, CInv W σ l chk (elOf t l fc fe) xs T mF ρ1 m1.length H1 D i H ρ m acc ys accV, ⟨xs.length, by simp, Nat.zero_le _, ρ1, m1, [], T, [], ?_⟩, ?_⟩
          · refine ⟨Ext.refl.own hD, s1.laid hD, ss1.tr (ext_laid hD).tr, upd_same, .nil, fun i hi e => ?_, e2, rfl⟩
            obtain ⟨u, a, _⟩ := s1.obj i m1[i] (by simp [hi])
            rw [e, hD] at a; cases a
          · rintro i n H2 ⟨en, hi, ρ2, m2, acc, ys, accV, c⟩
            by_cases hlt : i < xs.length
            · obtain ⟨v, hv⟩ : ∃ v, xs[i]? = some v := ⟨xs[i], by simp [hlt]⟩
              obtain ⟨st, o, m3, zs, eo, ez, ey⟩ := c.turn hv
              obtain ⟨go, yl⟩ := wk.go i ρ2 m2 H2 v c.ext.tr c.sim st hv
              refine .inr ⟨go, fun H' => ∃ ρ m acc ys accV, CInv W σ l chk (elOf t l fc fe) xs T mF ρ1 m1.length H1 D (i + 1) H' ρ m acc ys accV, fun H' h => ⟨xs.length - (i + 1), by omega, rfl, hlt, h⟩, fun x H' hy => ?_⟩
              obtain ⟨hH', rv⟩ := yl x H' hy
              obtain ⟨xe, s2⟩ := yld_ext c.sim c.ss hH'
              have ss2 := c.ss.ext xe
              obtain ⟨d2, far2⟩ := xe.apart c.at_ c.far
              have ext2 : Ext W.K ρ1 m1.length H1 ρ2 m2.length H' := c.ext.trans xe
              have rep2 := c.rep.ext xe
              -- what is left when a value has come, or none
              have keep : ∀ {H4 : Hp} {ρ4 : Nat → Addr} {y : Val} {u : V}, Ext W.K ρ2 m2.length H' ρ4 m3.length H4 → Sim W ρ4 m3 H4 → Rep W.K ρ4 m3.length H4 y u → o = some y →
                  ∃ acc, H4 D = some (.lst acc) ∧ acc.length < sizeLine ∧ ∃ ρ m acc_1 ys accV, CInv W σ l chk (elOf t l fc fe) xs T mF ρ1 m1.length H1 D (i + 1) (upd H4 D (.lst (acc ++ [u]))) ρ m acc_1 ys accV := fun {H4 ρ4 y u} x4 s4 r4 eoy => by
                obtain ⟨d4, far4⟩ := x4.apart d2 far2
                have hl : accV.length < sizeLine := by
                  have hall := c.all
                  rw [ey, eoy] at hall
                  have := congrArg List.length hall
                  simp only [List.length_append, Option.toList, List.length_cons, List.length_nil] at this
                  rw [← c.rep.length, ← sz_line]
                  omega
                refine ⟨accV, d4, hl, ρ4, m3, acc ++ [y], zs, accV ++ [u], ?_⟩
                have tr4 : Tr W.K ρ4 m3.length H4 ρ4 m3.length (upd H4 D (.lst (accV ++ [u]))) := Tr.own d4
                exact ⟨(ext2.trans x4).own hD, s4.own d4 far4, (ss2.ext x4).tr tr4, upd_same, (((rep2.ext x4).append (.cons r4 .nil))).tr tr4, far4, ez, by rw [List.append_assoc, ← c.all, ey, eoy]; rfl⟩
              have drop : ∀ {H4 : Hp} {ρ4 : Nat → Addr}, Ext W.K ρ2 m2.length H' ρ4 m3.length H4 → Sim W ρ4 m3 H4 → o = none → ∃ ρ m acc_1 ys accV, CInv W σ l chk (elOf t l fc fe) xs T mF ρ1 m1.length H1 D (i + 1) H4 ρ m acc_1 ys accV := fun {H4 ρ4} x4 s4 eoy => by
                obtain ⟨d4, far4⟩ := x4.apart d2 far2
                exact ⟨ρ4, m3, acc, zs, accV, ext2.trans x4, s4, ss2.ext x4, d4, rep2.ext x4, far4, ez, by rw [← c.all, ey, eoy]; rfl⟩
              -- the target
              have asg : ∃ l', assignT m2 t v (wipeL l t.slots) = some l' := by
                cases fc with
                | none =>
                  unfold elOf compEl at eo
                  simp only at eo
                  split at eo
                  · exact ⟨_, by assumption⟩
                  · cases eo
                | some f =>
                  unfold elOf compElIf at eo
                  simp only at eo
                  split at eo
                  · exact ⟨_, by assumption⟩
                  · cases eo
              obtain ⟨l', el'⟩ := asg
              refine ⟨ρ2, wipeL l t.slots, m2, v, l', ss2.wipe _, s2, rv, el', fun σ' ss' k' n' => ?_⟩
              refine ⟨wipe_eq ?_ k', ?_⟩
              · rw [n', wipe_length]
              · cases fc with
                | none =>
                  unfold elOf compEl at eo
                  simp only [el'] at eo
                  simp only [tTests, tYes, if_true]
                  refine ⟨ρ2, l', m2, ss', s2, ?_⟩
                  cases e5 : fe l' m2 with
                  | ok y m5 =>
                    rw [e5] at eo
                    simp only [Res.bind, Res.ok.injEq] at eo
                    obtain ⟨eo1, eo2⟩ := eo
                    subst eo2
                    intro ρ4 H4 u x4 s4 r4
                    exact keep x4 s4 r4 eo1.symm
                  | exc _ _ _ => rw [e5] at eo; cases eo
                  | err => rw [e5] at eo; cases eo
                | some f =>
                  unfold elOf compElIf at eo
                  simp only [el'] at eo
                  simp only [tTests]
                  refine ⟨ρ2, l', m2, ss', s2, ?_⟩
                  cases e5 : f l' m2 with
                  | ok b m5 =>
                    rw [e5] at eo
                    simp only [Res.bind] at eo
                    cases e6 : truth m5 b with
                    | none => rw [e6] at eo; cases eo
                    | some k =>
                      rw [e6] at eo
                      refine ⟨k, e6, fun ρ4 H4 x4 s4 => ?_⟩
                      cases k with
                      | false =>
                        simp only [Res.ok.injEq] at eo
                        obtain ⟨eo1, eo2⟩ := eo
                        subst eo2
                        rw [if_neg (by decide)]
                        exact drop x4 s4 eo1.symm
                      | true =>
                        rw [if_pos rfl]
                        refine ⟨ρ4, l', m5, ss'.ext x4, s4, ?_⟩
                        cases e7 : fe l' m5 with
                        | ok y m6 =>
                          rw [e7] at eo
                          simp only [Res.ok.injEq] at eo
                          obtain ⟨eo1, eo2⟩ := eo
                          subst eo2
                          intro ρ5 H5 u x5 s5 r5
                          exact keep (x4.trans x5) s5 r5 eo1.symm
                        | exc _ _ _ => rw [e7] at eo; cases eo
                        | err => rw [e7] at eo; cases eo
                  | exc _ _ _ => rw [e5] at eo; cases eo
                  | err => rw [e5] at eo; cases eo
            · have ei : i = xs.length := by omega
              subst ei
              obtain ⟨st, q⟩ := c.ends hD p1
              exact .inl ⟨wk.stop xs.length ρ2 m2 H2 c.ext.tr c.sim st (Nat.le_refl _), q⟩
        · exact p1.elim
      · rename_i hne
        exact absurd rfl (hne _ _)
end
end Py

namespace Py
open PySem PySem.Spec PyProof.Rows L2

def PostF (W : Wd) (wx : WX) (ρ : Nat → Addr) (n : Nat) (H : Hp) (r : Flow) (D : Ends) : Prop := match r with
  | .nx l m => ∀ ρ' H' σ', Ext W.K ρ n H ρ' m.length H' → Sim W ρ' m H' → SimS W.K ρ' m.length H' l σ' → D.nx σ' H'
  | .ret v m => ∀ ρ' H' u, Ext W.K ρ n H ρ' m.length H' → Sim W ρ' m H' → Rep W.K ρ' m.length H' v u → D.rt u H'
  | .brk l m => ∀ ρ' H' σ', Ext W.K ρ n H ρ' m.length H' → Sim W ρ' m H' → SimS W.K ρ' m.length H' l σ' → D.bk σ' H'
  | .cnt l m => ∀ ρ' H' σ', Ext W.K ρ n H ρ' m.length H' → Sim W ρ' m H' → SimS W.K ρ' m.length H' l σ' → D.ct σ' H'
  | .exc l c fs m => ∀ ρ' H' σ' cls d, Ext W.K ρ n H ρ' m.length H' → Sim W ρ' m H' → SimS W.K ρ' m.length H' l σ' → RepX W ρ' m.length H' c fs cls d → wx cls d σ' H'
  | .err => False
section
variable {W : Wd} {wx : WX} {ρ ρ1 : Nat → Addr} {n n1 : Nat} {H H1 : Hp}
theorem PostF.ext {r : Flow} {D : Ends} (p : PostF W wx ρ n H r D) (x : Ext W.K ρ n H ρ1 n1 H1) : PostF W wx ρ1 n1 H1 r D := by
  cases r with
  | nx l m => exact fun ρ' H' u a b c => p ρ' H' u (x.trans a) b c
  | ret l m => exact fun ρ' H' u a b c => p ρ' H' u (x.trans a) b c
  | brk l m => exact fun ρ' H' u a b c => p ρ' H' u (x.trans a) b c
  | cnt l m => exact fun ρ' H' u a b c => p ρ' H' u (x.trans a) b c
  | exc l c fs m => exact fun ρ' H' u cls d a b c e => p ρ' H' u cls d (x.trans a) b c e
  | err => exact p
theorem PostF.bind {σ : L2.St} {l : Py.Loc} {r : Res Val} {f : Val → Mem → Flow} {D : Ends} (ss : SimS W.K ρ n H l σ) (p : PostF W wx ρ n H (bindF l r f) D) :
    Post W wx σ ρ n H r fun u H1 => ∃ v m1 ρ1, Aft W σ ρ n H l v m1 ρ1 u H1 ∧ PostF W wx ρ1 m1.length H1 (f v m1) D := by
  cases r with
  | ok v m => exact fun ρ' H' u a b c => ⟨v, m, ρ', ⟨a, ss.ext a, b, c⟩, PostF.ext p a⟩
  | exc c fs m => exact fun ρ' H' cls d a b e => p ρ' H' σ cls d a b (ss.ext a) e
  | err => exact p
end
structure SS (X : Cx) (W : Wd) (wx : WX) (st : Stmt) (f : Py.Loc → Mem → Flow) : Prop where
  ex : ∃ t : TS, PS X st t ∧ ∀ (σ : L2.St) (H : Hp) (ρ : Nat → Addr) (l : Py.Loc) (m : Mem) (D : Ends), SimS W.K ρ m.length H l σ → Sim W ρ m H → PostF W wx ρ m.length H (f l m) D → t D σ H
structure SSs (X : Cx) (W : Wd) (wx : WX) (st : List Stmt) (f : Py.Loc → Mem → Flow) : Prop where
  ex : ∃ t : TS, PSs X st t ∧ ∀ (σ : L2.St) (H : Hp) (ρ : Nat → Addr) (l : Py.Loc) (m : Mem) (D : Ends), SimS W.K ρ m.length H l σ → Sim W ρ m H → PostF W wx ρ m.length H (f l m) D → t D σ H

section
variable {X : Cx} {W : Wd} {wx : WX} {st : Stmt} {sts : List Stmt} {e o iter tg : Expr} {f fe fo : Py.Loc → Mem → Res Val} {g gs : Py.Loc → Mem → Flow} {pos pos' : Pos}
theorem ss_pass : SS X W wx (.Pass pos) (fun l m => .nx l m) := ⟨_, ps_pass, fun σ H ρ l m D ss s p => p ρ H σ Ext.refl s ss⟩
theorem ss_brk : SS X W wx (.Break pos) (fun l m => .brk l m) := ⟨_, ps_break, fun σ H ρ l m D ss s p => p ρ H σ Ext.refl s ss⟩
theorem ss_cnt : SS X W wx (.Continue pos) (fun l m => .cnt l m) := ⟨_, ps_continue, fun σ H ρ l m D ss s p => p ρ H σ Ext.refl s ss⟩
theorem ss_dead : SS X W wx st (fun _ _ => .err) := ⟨_, ps_never, fun σ H ρ l m D ss s p => p.elim⟩
theorem sss_nil : SSs X W wx [] (fun l m => .nx l m) := ⟨_, pss_nil, fun σ H ρ l m D ss s p => p ρ H σ Ext.refl s ss⟩
theorem sss_cons (h : SS X W wx st g) (hr : SSs X W wx sts gs) : SSs X W wx (st :: sts) (fun l m => (g l m).seq gs) := by
  obtain ⟨t, p, q⟩ := h.ex
  obtain ⟨u, pr, qr⟩ := hr.ex
  refine ⟨_, pss_cons p pr, fun σ H ρ l m D ss s po => ?_⟩
  refine q σ H ρ l m _ ss s ?_
  cases e : g l m with
  | nx l' m' =>
    rw [e] at po
    exact fun ρ' H' σ' x s' ss' => qr σ' H' ρ' l' m' D ss' s' (PostF.ext po x)
  | _ => rw [e] at po; exact po
theorem ss_expr (h : SE X W wx e f) (hs : swapsWith e none pos.line X.env = pure false) : SS X W wx (.Expr e pos) (fun l m => bindF l (f l m) fun _ m1 => .nx l m1) := by
  obtain ⟨t, p, q⟩ := h.ex
  refine ⟨_, ps_expr p hs, fun σ H ρ l m D ss s po => ?_⟩
  exact q σ H ρ l m _ ss s ((PostF.bind ss po).mono fun u H1 ⟨x, m1, ρ1, A, p1⟩ => p1 ρ1 H1 σ Ext.refl A.sim A.ss)
theorem ss_set {i : Nat} {x : PySem.Str} (hN : X.N.Nodup) (hi : X.N[i]? = some x) (hx : L2.Loc X.env.scope x) (hf : X.fn x = true ∨ X.env.scope.names.lookup x = some .local) (h : SE X W wx e f) (hs : swapsWith e (some (.Name x pos')) pos.line X.env = pure false) :
    SS X W wx (.Assign [.Name x pos'] e pos) (fun l m => bindF l (f l m) fun v m1 => .nx (l.set i (some v)) m1) := by
  obtain ⟨t, p, q⟩ := h.ex
  refine ⟨_, ps_set hN hi hx p hs hf, fun σ H ρ l m D ss s po => ?_⟩
  exact q σ H ρ l m _ ss s ((PostF.bind ss po).mono fun u H1 ⟨x, m1, ρ1, A, p1⟩ => p1 ρ1 H1 _ Ext.refl A.sim (A.ss.set A.rep i))
theorem ss_asg {t : Tg} (hg : PG X tg (gSem W t)) (h : SE X W wx e f) (hs : swapsWithSole [tg] e pos.line X.env = pure false) (hw : swappedStores [tg] e X.env = pure none) (h1 : (assignEach [tg] X.env).map (·.2) = [assign tg X.env]) :
    SS X W wx (.Assign [tg] e pos) (fun l m => bindF l (f l m) fun v m1 => match assignT m1 t v l with
      | some l' => .nx l' m1
      | none => .err) := by
  obtain ⟨tt, p, q⟩ := h.ex
  refine ⟨_, ps_asg p hg hs hw h1, fun σ H ρ l m D ss s po => ?_⟩
  refine q σ H ρ l m _ ss s ((PostF.bind ss po).mono fun u H1 ⟨x, m1, ρ1, A, p1⟩ => ?_)
  split at p1
  · rename_i l' el
    exact ⟨ρ1, l, m1, x, l', A.ss, A.sim, A.rep, el, fun σ' ss' _ _ => p1 ρ1 H1 σ' Ext.refl A.sim ss'⟩
  · exact p1.elim
/-! x op= e -/
def rAug (W : Wd) (o : BOp) : TIp := fun u w H Q => ∃ ρ m x y, Sim W ρ m H ∧ Rep W.K ρ m.length H x u ∧ Rep W.K ρ m.length H y w ∧ PV W ρ m.length H (augop o x y m) Q
theorem augop_nx {o : BOp} {x y : Val} {m m' : Mem} {c : PySem.Str} {fs} : augop o x y m ≠ .exc c fs m' := by
  unfold augop; split <;> (try split) <;> simp
theorem ip_any (o : BOp) : PIp X (opOf o) (rAug W o) := by
  intro pins s σ H x y v u Q I rx ry h
  obtain ⟨ρ, m, x', y', sm, rx', ry', p⟩ := h
  unfold augop at p
  split at p
  · rw [int_of rx'] at rx
    rw [int_of ry'] at ry
    exact ip_add pins s σ H _ _ v u Q I rx ry ⟨_, _, rfl, rfl, sm.one p (.int _)⟩
  · rw [int_of rx'] at rx
    rw [int_of ry'] at ry
    exact ip_sub pins s σ H _ _ v u Q I rx ry ⟨_, _, rfl, rfl, sm.one p (.int _)⟩
  · split at p
    · rename_i hl
      cases rx' with
      | str a ha =>
        cases ry' with
        | str b hb =>
          refine iop_add_str pins s σ H _ _ v u Q I rx ry ⟨_, _, rfl, rfl, by rw [sv_len, sv_len, ← sz_line]; exact hl, ?_⟩
          rw [sv_app]
          exact sm.one p (.str _ (okS_app ha hb))
    · exact p.elim
  · exact p.elim
theorem ss_aug {i : Nat} {x : PySem.Str} (b : BOp) (hN : X.N.Nodup) (hi : X.N[i]? = some x) (hx : L2.Loc X.env.scope x) (hf : X.fn x = true ∨ X.env.scope.names.lookup x = some .local) (h : SE X W wx e f) :
    SS X W wx (.AugAssign (.Name x pos') (opOf b) e pos) (fun l m => match l[i]? with
      | some (some x) => bindF l (f l m) fun y m1 => bindF l (augop b x y m1) fun v m2 => .nx (l.set i (some v)) m2
      | _ => .err) := by
  obtain ⟨t, p, q⟩ := h.ex
  refine ⟨_, ps_aug hN hi hx p (ip_any (W := W) b) hf, fun σ H ρ l m D ss s po => ?_⟩
  split at po
  · rename_i v ev
    obtain ⟨u, e1, r⟩ := ss.get i v ev
    refine ⟨u, e1, ?_⟩
    refine q σ H ρ l m _ ss s ((PostF.bind ss po).mono fun w H1 ⟨y, m1, ρ1, A, p1⟩ => ?_)
    have p2 := (PostF.bind A.ss p1).nx fun _ _ _ => augop_nx
    refine ⟨ρ1, m1, v, y, A.sim, r.ext A.ext, A.rep, ?_⟩
    cases e2 : augop b v y m1 with
    | ok z m2 =>
      rw [e2] at p2
      intro ρ' H' z' x' s' r'
      obtain ⟨v2, m3, ρ3, B, p3⟩ := p2 ρ' H' z' x' s' r'
      exact p3 ρ3 H' _ Ext.refl B.sim (B.ss.set B.rep i)
    | exc _ _ _ => rw [e2] at p2; exact p2.elim
    | err => rw [e2] at p2; exact p2.elim
  · exact po.elim
theorem ss_ret (h : SE X W wx e f) : SS X W wx (.Return (some e) pos) (fun l m => bindF l (f l m) fun v m1 => .ret v m1) := by
  obtain ⟨t, p, q⟩ := h.ex
  refine ⟨_, ps_ret p, fun σ H ρ l m D ss s po => ?_⟩
  exact q σ H ρ l m _ ss s ((PostF.bind ss po).mono fun u H1 ⟨x, m1, ρ1, A, p1⟩ => p1 ρ1 H1 u Ext.refl A.sim A.rep)
theorem ss_retN : SS X W wx (.Return none pos) (fun l m => .ret .none m) := ⟨_, ps_retN, fun σ H ρ l m D ss s p => p ρ H .non Ext.refl s .none⟩
def setAttrR (P : Prog) (fn : PySem.Str) (v x : Val) (l : Py.Loc) (m2 : Mem) : Flow := match x with
  | .ref k => match m2[k]? with
    | some (.inst c fs) => if fs.length < 1000 ∧ (P.flds c).contains fn = true then .nx l (m2.set k (.inst c (putAttr fn v fs))) else .err
    | _ => .err
  | _ => .err
theorem ss_setAttr {P : Prog} (hW : W.K = X.K) {fn : PySem.Str} (hP : ∀ c, (P.flds c).contains fn = true → NoAttr W.K (W.cad c) fn) (ho : SE X W wx o fo) (h : SE X W wx e f) (hs : swapsWith e (some (.Attribute o fn pos')) pos.line X.env = pure false) :
    SS X W wx (.Assign [.Attribute o fn pos'] e pos) (fun l m => bindF l (f l m) fun v m1 => bindF l (fo l m1) fun x m2 => setAttrR P fn v x l m2) := by
  obtain ⟨t, p, q⟩ := h.ex
  obtain ⟨to, po, qo⟩ := ho.ex
  refine ⟨_, ps_fld po p hs, fun σ H ρ l m D ss s pp => ?_⟩
  refine q σ H ρ l m _ ss s ((PostF.bind ss pp).mono fun u H1 ⟨v, m1, ρ1, A, p1⟩ => ?_)
  refine qo σ H1 ρ1 l m1 _ A.ss A.sim ((PostF.bind A.ss p1).mono fun w H2 ⟨x, m2, ρ2, B, p2⟩ => ?_)
  unfold setAttrR at p2
  split at p2
  · rename_i k
    split at p2
    · rename_i c fs ek
      split at p2
      · rename_i hh
        obtain ⟨hl, hc⟩ := hh
        obtain ⟨dx, us, q1, q2, q3, q4⟩ := B.sim.inst ek
        have na := hP c hc
        have hk : k < m2.length := (List.getElem?_eq_some_iff.mp ek).1
        have r := B.rep
        cases r
        refine ⟨_, _, dx, us, rfl, q1, by rw [← hW]; exact q3, by rw [← hW]; exact na, by rw [← q2.length]; exact hl, ?_⟩
        have rv := A.rep.ext B.ext
        have x3 := ext_put (o' := .ins (W.cad c) dx (putF fn u us)) B.sim hk q1
        have hln : (m2.set k (Ob.inst c (putAttr fn v fs))).length = m2.length := by simp
        refine p2 ρ2 _ σ (by rw [hln]; exact x3) (B.sim.put hk (.inst (q2.put rv) q3 fun g z hz => ?_)) (by rw [hln]; exact B.ss.ext x3)
        rw [lookup_putF] at hz
        split at hz
        · rename_i e; rw [e]; exact na
        · exact q4 g z hz
      · exact p2.elim
    · exact p2.elim
  · exact p2.elim
def setIdxR (v x y : Val) (l : Py.Loc) (m3 : Mem) : Flow := match x, y with
  | .ref k, j => match m3[k]? with
    | some (.list xs) => match j with
      | .int i => match ixOf xs.length i with
        | some n => .nx l (m3.set k (.list (xs.set n v)))
        | none => .err
      | _ => .err
    | _ => .err
  | _, _ => .err
theorem ss_setIdx {i : Expr} {fi : Py.Loc → Mem → Res Val} (ho : SE X W wx o fo) (hi : SE X W wx i fi) (h : SE X W wx e f)
    (ha : ∀ v, assign (.Subscript o i pos') X.env v = (do
      let ov ← holding [v] (eval o X.env)
      let iv ← holding [v, ov] (eval i X.env)
      standAt pos'
      holding [v, ov, iv] (setItem ov iv v)
      release [v, ov, iv] []))
    (hs : swapsWithSole [.Subscript o i pos'] e pos.line X.env = pure false) (hw : swappedStores [.Subscript o i pos'] e X.env = pure none) (h1 : (assignEach [.Subscript o i pos'] X.env).map (·.2) = [assign (.Subscript o i pos') X.env]) :
    SS X W wx (.Assign [.Subscript o i pos'] e pos) (fun l m => bindF l (f l m) fun v m1 => bindF l (fo l m1) fun x m2 => bindF l (fi l m2) fun y m3 => setIdxR v x y l m3) := by
  obtain ⟨t, p, q⟩ := h.ex
  obtain ⟨to, po, qo⟩ := ho.ex
  obtain ⟨ti, pi, qi⟩ := hi.ex
  refine ⟨_, ps_asg p (pg_sub po pi set_list ha) hs hw h1, fun σ H ρ l m D ss s pp => ?_⟩
  refine q σ H ρ l m _ ss s ((PostF.bind ss pp).mono fun u H1 ⟨v, m1, ρ1, A, p1⟩ => ?_)
  refine qo σ H1 ρ1 l m1 _ A.ss A.sim ((PostF.bind A.ss p1).mono fun w H2 ⟨x, m2, ρ2, B, p2⟩ => ?_)
  refine qi σ H2 ρ2 l m2 _ B.ss B.sim ((PostF.bind B.ss p2).mono fun z H3 ⟨y, m3, ρ3, C, p3⟩ => ?_)
  have rx := B.rep.ext C.ext
  have ry := C.rep
  have rv := (A.rep.ext B.ext).ext C.ext
  unfold setIdxR at p3
  split at p3
  · rename_i k j
    split at p3
    · rename_i xs ek
      split at p3
      · rename_i i0
        split at p3
        · rename_i n en
          obtain ⟨us, q1, r⟩ := C.sim.obj k _ ek
          cases r with
          | list r =>
            have hk : k < m3.length := (List.getElem?_eq_some_iff.mp ek).1
            cases rx
            cases ry
            refine ⟨_, _, i0, n, rfl, rfl, q1, by rw [← r.length, ← ixOf_eq]; exact en, ?_⟩
            have hln : (m3.set k (Ob.list (xs.set n v))).length = m3.length := by simp
            exact p3 ρ3 _ σ (by rw [hln]; exact ext_put C.sim hk q1) (C.sim.put hk (.list (r.set n rv))) (by rw [hln]; exact C.ss.ext (ext_put C.sim hk q1))
        · exact p3.elim
      · exact p3.elim
    · exact p3.elim
  · exact p3.elim
theorem ss_if {c : Expr} {fc : Py.Loc → Mem → Res Val} {sa sb : List Stmt} {ga gb : Py.Loc → Mem → Flow} (hc : ST X W wx c fc) (ha : SSs X W wx sa ga) (hb : SSs X W wx sb gb) :
    SS X W wx (.If c sa sb pos) (fun l m => bindF l (fc l m) fun v m1 => match truth m1 v with
      | some true => ga l m1
      | some false => gb l m1
      | none => .err) := by
  obtain ⟨t, p, q⟩ := hc.ex
  obtain ⟨ta, pa, qa⟩ := ha.ex
  obtain ⟨tb, pb, qb⟩ := hb.ex
  refine ⟨_, ps_if p pa pb, fun σ H ρ l m D ss s po => ?_⟩
  refine q σ H ρ l m _ ss s ?_
  cases e : fc l m with
  | ok v m1 =>
    rw [e] at po
    unfold bindF at po
    simp only at po
    split at po
    · rename_i et
      exact ⟨true, et, fun ρ' H' x s' => iteT (qa σ H' ρ' l m1 D (ss.ext x) s' (PostF.ext po x))⟩
    · rename_i et
      exact ⟨false, et, fun ρ' H' x s' => iteF (qb σ H' ρ' l m1 D (ss.ext x) s' (PostF.ext po x))⟩
    · exact po.elim
  | exc c fs m1 => rw [e] at po; exact fun ρ' H' cls d a b ee => po ρ' H' σ cls d a b (ss.ext a) ee
  | err => rw [e] at po; exact po.elim
theorem ss_while {c : Expr} {fc : Py.Loc → Mem → Res Val} {sb : List Stmt} {gb : Py.Loc → Mem → Flow} (N : Nat) (hp : PassesOwn (model X.prog X.w) X.A X.env X.xe) (hc : ST X W wx c fc) (hb : SSs X W wx sb gb) :
    SS X W wx (.While c sb [] pos) (fun l m => whileLoop fc gb N l m) := by
  obtain ⟨t, p, q⟩ := hc.ex
  obtain ⟨tb, pb, qb⟩ := hb.ex
  refine ⟨_, ps_while hp p pb, fun σ H ρ l m D ss s po => ?_⟩
  refine ⟨fun n σ H => ∃ ρ l m, SimS W.K ρ m.length H l σ ∧ Sim W ρ m H ∧ PostF W wx ρ m.length H (whileLoop fc gb n l m) D, ⟨N, ρ, l, m, ss, s, po⟩, ?_⟩
  rintro n σ H ⟨ρ, l, m, ss, s, po⟩
  cases n with
  | zero => exact (show False from po).elim
  | succ n =>
    unfold whileLoop at po
    refine q σ H ρ l m _ ss s ?_
    cases e : fc l m with
    | ok v m1 =>
      rw [e] at po
      unfold bindF at po
      simp only at po
      split at po
      · rename_i et
        refine ⟨true, et, fun ρ' H' x s' => ?_⟩
        refine iteT ⟨fun σ' H' => ∃ ρ l m, SimS W.K ρ m.length H' l σ' ∧ Sim W ρ m H' ∧ PostF W wx ρ m.length H' (whileLoop fc gb n l m) D, fun σ' H' h => ⟨n, Nat.lt_succ_self _, h⟩, ?_⟩
        refine qb σ H' ρ' l m1 _ (ss.ext x) s' ?_
        have po' := PostF.ext po x
        cases eb : gb l m1 with
        | nx l2 m2 => rw [eb] at po'; exact fun ρ2 H2 σ2 x2 s2 ss2 => ⟨ρ2, l2, m2, ss2, s2, PostF.ext po' x2⟩
        | cnt l2 m2 => rw [eb] at po'; exact fun ρ2 H2 σ2 x2 s2 ss2 => ⟨ρ2, l2, m2, ss2, s2, PostF.ext po' x2⟩
        | brk l2 m2 => rw [eb] at po'; exact po'
        | ret v2 m2 => rw [eb] at po'; exact po'
        | exc l2 c2 f2 m2 => rw [eb] at po'; exact po'
        | err => rw [eb] at po'; exact po'
      · rename_i et
        refine ⟨false, et, fun ρ' H' x s' => ?_⟩
        exact iteF (po ρ' H' σ x s' (ss.ext x))
      · exact po.elim
    | exc c fs m1 => rw [e] at po; exact fun ρ' H' cls d a b ee => po ρ' H' σ cls d a b (ss.ext a) ee
    | err => rw [e] at po; exact po.elim
theorem ss_for {t : Tg} {fi : Py.Loc → Mem → Res (List Val × Option (Nat × List Val))} {sb : List Stmt} {gb : Py.Loc → Mem → Flow} (hp : PassesOwn (model X.prog X.w) X.A X.env X.xe) (hc : X.calm = true) (hi : SI X W wx tg iter fi) (hg : PG X tg (gSem W t)) (hb : SSs X W wx sb gb)
    (hs : ∀ x, foldedSetIterable iter X.env x = pure x) :
    SS X W wx (.For tg iter sb [] pos) (fun l m => match fi l m with
      | .ok w m1 => forLoop w.2 t gb w.1 l m1
      | .exc c fs m1 => .exc l c fs m1
      | .err => .err) := by
  obtain ⟨wi, p, q⟩ := hi.ex
  obtain ⟨tb, pb, qb⟩ := hb.ex
  refine ⟨_, ps_for hp hc p hg pb hs, fun σ H ρ l m D ss s po => ?_⟩
  refine q σ H ρ l m _ ss s ?_
  cases e : fi l m with
  | err => rw [e] at po; exact po.elim
  | exc c fs m1 => rw [e] at po; exact fun ρ' H' cls d a b ee => po ρ' H' σ cls d a b (ss.ext a) ee
  | ok w m1 =>
    rw [e] at po
    obtain ⟨xs, chk⟩ := w
    intro ρ1 H1 J x1 s1 wk
    have po1 : PostF W wx ρ1 m1.length H1 (forLoop chk t gb xs l m1) D := PostF.ext po x1
    refine ⟨fun i n σ H => n = xs.length - i ∧ i ≤ xs.length ∧ ∃ ρ l m, Ext W.K ρ1 m1.length H1 ρ m.length H ∧ SimS W.K ρ m.length H l σ ∧ Sim W ρ m H ∧ PostF W wx ρ m.length H (forLoop chk t gb (xs.drop i) l m) D, ⟨xs.length, by simp, Nat.zero_le _, ρ1, l, m1, Ext.refl, ss.ext x1, s1, po1⟩, ?_⟩
    rintro i n σ2 H2 ⟨en, hi, ρ2, l2, m2, x2, ss2, s2, po2⟩
    by_cases hlt : i < xs.length
    · obtain ⟨v, hv⟩ : ∃ v, xs[i]? = some v := ⟨xs[i], by simp [hlt]⟩
      obtain ⟨_, ev⟩ := List.getElem?_eq_some_iff.mp hv
      rw [List.drop_eq_getElem_cons hlt, ev] at po2
      unfold forLoop at po2
      split at po2
      · rename_i st
        split at po2
        · rename_i l' el
          obtain ⟨go, yl⟩ := wk.go i ρ2 m2 H2 v x2.tr s2 st hv
          refine .inr ⟨go, fun σ' H' => ∃ ρ l m, Ext W.K ρ1 m1.length H1 ρ m.length H' ∧ SimS W.K ρ m.length H' l σ' ∧ Sim W ρ m H' ∧ PostF W wx ρ m.length H' (forLoop chk t gb (xs.drop (i + 1)) l m) D, fun σ' H' h => ⟨xs.length - (i + 1), by omega, rfl, hlt, h⟩, fun x H' hy => ?_⟩
          obtain ⟨hH', rv⟩ := yl x H' hy
          obtain ⟨xe, s3⟩ := yld_ext s2 ss2 hH'
          refine ⟨ρ2, l2, m2, v, l', ss2.ext xe, s3, rv, el, fun σ' ss' _ _ => ?_⟩
          refine qb σ' H' ρ2 l' m2 _ ss' s3 ?_
          have po' := PostF.ext po2 xe
          have x3 := x2.trans xe
          cases eb : gb l' m2 with
          | nx l4 m4 => rw [eb] at po'; exact fun ρ4 H4 σ4 x4 s4 ss4 => ⟨ρ4, l4, m4, x3.trans x4, ss4, s4, PostF.ext po' x4⟩
          | cnt l4 m4 => rw [eb] at po'; exact fun ρ4 H4 σ4 x4 s4 ss4 => ⟨ρ4, l4, m4, x3.trans x4, ss4, s4, PostF.ext po' x4⟩
          | brk l4 m4 => rw [eb] at po'; exact po'
          | ret v4 m4 => rw [eb] at po'; exact po'
          | exc l4 c4 f4 m4 => rw [eb] at po'; exact po'
          | err => rw [eb] at po'; exact po'
        · exact po2.elim
      · exact po2.elim
    · have ei : i = xs.length := by omega
      subst ei
      rw [List.drop_length] at po2
      unfold forLoop at po2
      split at po2
      · rename_i st
        exact .inl ⟨wk.stop xs.length ρ2 m2 H2 x2.tr s2 st (Nat.le_refl _), po2 ρ2 H2 σ2 Ext.refl s2 ss2⟩
      · exact po2.elim
end
end Py

namespace Py
open PySem PySem.Spec PyProof.Rows L2

def tyStr : TyK → String
  | .none => "NoneType" | .bool => "bool" | .int => "int" | .str => "str" | .tuple => "tuple" | .list => "list" | .dict => "dict"
theorem kit_all (t c : TyK) (hc : c ≠ .none) : kitB (tyStr t) (tyStr c) = some (isiK t c) := by
  cases c with
  | none => exact absurd rfl hc
  | bool => cases t <;> decide +kernel
  | int => cases t <;> decide +kernel
  | str => cases t <;> decide +kernel
  | tuple => cases t <;> decide +kernel
  | list => cases t <;> decide +kernel
  | dict => cases t <;> decide +kernel
theorem boot_ty (c : TyK) (hc : c ≠ .none) : bootBuiltins (tyStr c) = some (.type (tyStr c)) := by
  cases c with
  | none => exact absurd rfl hc
  | bool => decide +kernel
  | int => decide +kernel
  | str => decide +kernel
  | tuple => decide +kernel
  | list => decide +kernel
  | dict => decide +kernel
section
variable {X : Cx} {W : Wd} {wx : WX} {a b c e o : Expr} {es : List Expr} {fa fb fc f fo : Py.Loc → Mem → Res Val} {fr : Py.Loc → Mem → Res (List Val)} {pos p p2 : Pos}
theorem tyX_of (hW : W.K = X.K) {ρ : Nat → Addr} {m : Mem} {H : Hp} {x : Val} {u : V} {t : TyK} (s : Sim W ρ m H) (r : Rep W.K ρ m.length H x u) (e : tyOf m x = some t) : TyX X.K H u (.type (tyStr t)) := by
  cases r with
  | none => cases e; exact .base .non
  | bool _ => cases e; exact .base (.bl _)
  | int _ => cases e; exact .base (.int _)
  | str _ _ => cases e; exact .base (.str _)
  | fro _ => cases e
  | tup h _ =>
    cases e
    have q := sqT_of h
    rw [hW] at q
    rcases q with (q | ⟨ob, q⟩) | ⟨ob, its, n, q, hc, _⟩
    · exact .base (.tup q)
    · exact .fTuple q
    · exact .kTuple q hc
  | @ref k hk =>
    unfold tyOf at e
    simp only at e
    split at e
    · rename_i xs ek
      cases e
      obtain ⟨us, q, r⟩ := s.obj k _ ek
      cases r
      exact .base (.lst q)
    · rename_i ek
      cases e
      obtain ⟨us, q, r⟩ := s.obj k _ ek
      cases r
      · exact .base (.dK q)
      · exact .base (.dT q)
    · cases e
theorem se_isi (hW : W.K = X.K) (c : TyK) (hc : c ≠ .none) (hg : Gl X "isinstance") (hm : X.mg "isinstance" = none) (hg2 : Gl X (tyStr c)) (hm2 : X.mg (tyStr c) = none)
    (hs1 : starEach [a, .Name (tyStr c) p2] X.env = (false, eval a X.env) :: starEach [.Name (tyStr c) p2] X.env) (ha : SE X W wx a fa) :
    SE X W wx (.Call (.Name "isinstance" p) [a, .Name (tyStr c) p2] [] pos) (fun l m => (fa l m).bind fun x m1 => match tyOf m1 x with
      | some t => .ok (.bool (isiK t c)) m1
      | none => .err) := by
  obtain ⟨ta, pa, qa⟩ := ha.ex
  have hn : ((tyStr c : String) : PySem.Str) ≠ "__name__" := by cases c <;> decide +kernel
  have hd : (((tyStr c : String) : PySem.Str) == ("__debug__" : PySem.Str)) = false := by cases c <;> decide +kernel
  have pt : PE X (.Name (tyStr c) p2) (tC (.ty (tyStr c))) := pe_bltn (v := .ty (tyStr c)) hg2 hm2 (boot_ty c hc) rfl hn hd
  refine ⟨_, pe_callB call_isi hg hm PyProof.Rows.boot_isinstance (pa_cons pa (pa_cons pt pa_nil) hs1) (by decide +kernel) (by decide +kernel) hs1, fun σ H ρ l m Q ss s po => ?_⟩
  refine qa σ H ρ l m _ ss s ((Post.bind ss po).mono fun u H1 ⟨x, m1, ρ1, A, p1⟩ => ?_)
  split at p1
  · rename_i t et
    exact ⟨u, _, _, _, isiK t c, rfl, .ty _, tyX_of hW A.sim A.rep et, kit_ty (kit_all t c hc), A.sim.one p1 (.bool _)⟩
  · exact p1.elim

/-! ### an instance is made -/
variable {k : Nat} {f0 C0 : Addr} {fd : FuncData} {ps : List PySem.Str} {cn inn : PySem.Str} {Cc : Calls}
theorem run_makeS {pins : List (Addr × Obj)} {σ : L2.St} {H : Hp} {s : Shared} {Q : VK} {us : List Value} {vs : List V} {CX : CXT} {sp : Sp} {E : L2.St → XK} (M : Mk X.K C0 f0) (F : FnOk X.prog X.w X.K X.mg X.base CX k f0 fd ps sp) (hr : Room (k + 1) X.A) (hb : Binds X.K fd ps [])
    (hx : PassesAt CX X σ (E σ)) (I : Inv X pins σ H s) (r : Vals vs us)
    (h : ∀ x dx, H x = none → H dx = none → dx ≠ x → sp (.ref x :: vs) (upd (upd H dx (.own x)) x (.ins C0 dx [])) (fun v H2 => v = .non ∧ Q (.ref x) H2) (E σ)) :
    wpAny (model X.prog X.w) X.A (call (.ref C0) us) (EP X pins σ Q) X.xe s := by
  have hq := h (s.heap.objs.size + 1) s.heap.objs.size (I.hok.fresh (Nat.le_succ _)) (I.hok.fresh (Nat.le_refl _)) (Nat.ne_of_lt (Nat.lt_succ_self _))
  have I2 := Inv.made (C := C0) I
  have r2 : Vals (V.ref (s.heap.objs.size + 1) :: vs) (Value.ref (s.heap.objs.size + 1) :: us) := .cons rfl r
  have hl : (Value.ref (s.heap.objs.size + 1) :: us ++ []).length = ps.length := by
    have e := r2.length
    rw [F.len _ _ _ _ hq] at e
    rw [List.append_nil]
    exact e.symm
  have hb' := hb _ (Value.ref (s.heap.objs.size + 1) :: us) I2.kIn hl
  rw [List.append_nil] at hb'
  refine wpAny_call (make_map (f := f0) I.kIn M.makes M.init (beq_iff_eq.mp M.fn) (codeAny_mono (F.run _ X.stack _ _ ⟨Value.ref (s.heap.objs.size + 1) :: us, []⟩ (Value.ref (s.heap.objs.size + 1) :: us) _ _ (E σ) (hr.make C0 us [])
    (I2.env0.make C0 us []) hb' r2 hq) fun r s' hq' => ?_))
  cases r with
  | error e => exact hx pins _ _ e s' I2 hq'
  | ok fl =>
    cases fl with
    | ret u =>
      obtain ⟨v, H', I3, rv, ev, q3⟩ := I2.after hq'
      subst ev
      exact ⟨rv, ⟨V.ref (s.heap.objs.size + 1), H', I3, rfl, q3⟩⟩
    | next => exact False.elim hq'
    | brk => exact False.elim hq'
    | cont => exact False.elim hq'
/-- from the plain run of a class's call to its __init__'s promise -/
theorem make_post {σ : L2.St} {ρ : Nat → Addr} {m : Mem} {H : Hp} {xs : List Val} {us : List V} {Q : VK} (hC : Cls W.K (W.cad cn)) (s : Sim W ρ m H) (r : RepL W.K ρ m.length H xs us)
    (p : Post W wx σ ρ m.length H (gc m ((Cc inn (.ref m.length :: xs) (m ++ [.inst cn []])).bind (mkG m.length))) Q) (x dx : Addr) (hx : H x = none) (hdx : H dx = none) (ne : dx ≠ x) :
    spC W Cc inn (.ref x :: us) (upd (upd H dx (.own x)) x (.ins (W.cad cn) dx [])) (fun v H2 => v = .non ∧ Q (.ref x) H2) (WE wx σ) := by
  have p1 := gc_ok s p
  have x1 : Ext W.K ρ m.length H ρ m.length (upd H dx (.own x)) := ext_laid hdx
  have s1 : Sim W ρ m (upd H dx (.own x)) := s.laid hdx
  have hx1 : (upd H dx (.own x)) x = none := by rw [upd_ne ne.symm]; exact hx
  have x2 := ext_new (K := W.K) (ρ := ρ) (n := m.length) (o := .ins (W.cad cn) dx []) hx1
  have s2 := s1.new (ob := .inst cn []) hx1 (.inst (dx := dx) .nil hC fun f u e => (nomatch e))
  have hl : (m ++ [Ob.inst cn []]).length = m.length + 1 := by simp
  have x12 := x1.trans x2
  have rr := (r.ext x12)
  have r0 : Rep W.K (fun i => if i = m.length then x else ρ i) (m.length + 1) (upd (upd H dx (.own x)) x (.ins (W.cad cn) dx [])) (.ref m.length) (.ref x) := by
    have h := Rep.ref (K := W.K) (ρ := fun i => if i = m.length then x else ρ i) (n := m.length + 1) (H := upd (upd H dx (.own x)) x (.ins (W.cad cn) dx [])) (k := m.length) (Nat.lt_succ_self _)
    simp only [if_true] at h
    exact h
  refine ⟨_, m ++ [.inst cn []], .ref m.length :: xs, s2, by rw [hl]; exact .cons r0 rr, ?_⟩
  have p2 := post_call (p1.ext x12)
  rw [hl]
  cases e : Cc inn (.ref m.length :: xs) (m ++ [.inst cn []]) with
  | ok v m1 =>
    rw [e] at p2
    intro ρ3 H3 u x3 s3 r3
    have p3 : Post W (fun cls d _ H => WE wx σ cls d H) [] (fun i => if i = m.length then x else ρ i) (m.length + 1) (upd (upd H dx (.own x)) x (.ins (W.cad cn) dx [])) (mkG m.length v m1) Q := p2
    cases r3 with
    | none =>
      refine ⟨rfl, ?_⟩
      have h := Rep.ext x3 r0
      exact p3 ρ3 H3 _ x3 s3 h
    | _ => exact p3.elim
  | exc _ _ _ => rw [e] at p2; exact p2
  | err => rw [e] at p2; exact p2
theorem se_make (hW : W.K = X.K) (hC : Cls W.K (W.cad cn)) (M : Mk X.K (W.cad cn) f0) (F : FnOk X.prog X.w X.K X.mg X.base (L2.CX X.prog X.w) k f0 fd ps (spC W Cc inn)) (hr : Room (k + 1) X.A) (hg : Gl X cn) (hm : X.mg cn = some (.ref (W.cad cn))) (hb : Binds X.K fd ps [])
    (tk : Takes X wx) (hdb : (cn == ("__debug__" : PySem.Str)) = false) (he : starEach (e :: es) X.env = (false, eval e X.env) :: starEach es X.env) (hpl : (backTo pos (starEach es X.env)).any (·.1) = false) (ha : SA X W wx (e :: es) fr) :
    SE X W wx (.Call (.Name cn p) (e :: es) [] pos) (fun l m => (fr l m).bind fun vs m1 => gc m1 ((Cc inn (.ref m1.length :: vs) (m1 ++ [.inst cn []])).bind (mkG m1.length))) := by
  obtain ⟨ta, pa, qa⟩ := ha.ex
  refine ⟨fun σ H Q => ta σ H fun us H1 => ∀ x dx, H1 x = none → H1 dx = none → dx ≠ x → spC W Cc inn (.ref x :: us) (upd (upd H1 dx (.own x)) x (.ins (W.cad cn) dx [])) (fun v H2 => v = .non ∧ Q (.ref x) H2) (WE wx σ), ⟨fun pins s σ H Q I h => ?_⟩, fun σ H ρ l m Q ss s po => ?_⟩
  · refine wpAny_Call_Name_kw (ld_glob I hg hm ?_ hdb)
    refine PySem.W.callWith_K (h₀ := X.base) I.ok.mod.kin M.kp (thn (pa.run pos pins s σ H _ I h) fun us s1 ⟨vs, H1, I1, r, q⟩ => ⟨I1.kIn, ?_⟩) he hpl
    exact run_makeS M F hr hb (passAt tk σ) I1 r q
  · refine qa σ H ρ l m _ ss s ((PostL.bind ss po).mono fun us H1 ⟨xs, m1, ρ1, A, p1⟩ => ?_)
    exact make_post hC A.sim A.rep p1
theorem se_make0 (hW : W.K = X.K) (hC : Cls W.K (W.cad cn)) (M : Mk X.K (W.cad cn) f0) (F : FnOk X.prog X.w X.K X.mg X.base (L2.CX X.prog X.w) k f0 fd ps (spC W Cc inn)) (hr : Room (k + 1) X.A) (hg : Gl X cn) (hm : X.mg cn = some (.ref (W.cad cn))) (hb : Binds X.K fd ps [])
    (tk : Takes X wx) (hdb : (cn == ("__debug__" : PySem.Str)) = false) :
    SE X W wx (.Call (.Name cn p) [] [] pos) (fun l m => (Res.ok ([] : List Val) m).bind fun vs m1 => gc m1 ((Cc inn (.ref m1.length :: vs) (m1 ++ [.inst cn []])).bind (mkG m1.length))) := by
  refine ⟨fun σ H Q => ∀ x dx, H x = none → H dx = none → dx ≠ x → spC W Cc inn (.ref x :: []) (upd (upd H dx (.own x)) x (.ins (W.cad cn) dx [])) (fun v H2 => v = .non ∧ Q (.ref x) H2) (WE wx σ), ⟨fun pins s σ H Q I h => ?_⟩, fun σ H ρ l m Q ss s po => ?_⟩
  · refine wpAny_Call_Name_kw (ld_glob I hg hm ?_ hdb)
    exact PySem.W.callWith_K0 I.kIn M.kp (run_makeS (us := []) M F hr hb (passAt tk σ) I .nil h)
  · exact make_post hC s .nil po

/-! ### methods of lists -/
def recvR (b : BM) (x : Val) (g : Mem → Res Val) (m1 : Mem) : Res Val := if recvOk b m1 x = true then g m1 else .err
theorem tyV_list (hW : W.K = X.K) {b : BM} {ρ : Nat → Addr} {m : Mem} {H : Hp} {x : Val} {u : V} (s : Sim W ρ m H) (r : Rep W.K ρ m.length H x u) (e : recvOk b m x = true) : tyV X.K "list" u H := by
  cases r with
  | @ref k hk =>
    unfold recvOk at e
    simp only at e
    obtain ⟨xs, ex⟩ := Option.isSome_iff_exists.mp e
    obtain ⟨_, _, us, q, _⟩ := s.list ex
    exact .inl ⟨rfl, us, SqL.of q⟩
  | _ => cases e
theorem se_bm {id : String} {mn : PySem.Str} {apos : Pos} {b : BM} (hW : W.K = X.K) (pa : PlainAttrs "list") (slot : Slot "list" mn id) (hty : typeOf (.builtin id) = pure (.type "method_descriptor")) (hm : MtR X id (rBm W b))
    (hbase : attributeBase o mn X.env (eval o X.env) = eval o X.env) (hline : (apos.endLine == pos.line) = true) (ho : SE X W wx o fo) (ha : SA X W wx (e :: es) fr)
    (hfew : ((backTo pos (starEach (e :: es) X.env)).all (fun x => !x.1) && (backToKw pos (keywordEach [] X.env)).all (fun x => x.1.isSome)
      && decide ((e :: es).length + ([] : List Keyword).length + (if ([] : List Keyword).isEmpty then 0 else 1) < 30)) = true)
    (hs : starEach (e :: es) X.env = (false, eval e X.env) :: starEach es X.env) (hplain : (backTo pos (starEach es X.env)).any (·.1) = false) :
    SE X W wx (.Call (.Attribute o mn apos) (e :: es) [] pos) (fun l m => (fo l m).bind fun x m1 => recvR b x (fun m => (fr l m).bind fun vs m2 => bmop b x vs m2) m1) := by
  obtain ⟨to, po, qo⟩ := ho.ex
  obtain ⟨ta, pr, qa⟩ := ha.ex
  refine ⟨_, pe_bm pa slot hty hm po pr hbase hfew hline hs hplain, fun σ H ρ l m Q ss s pp => ?_⟩
  refine qo σ H ρ l m _ ss s ((Post.bind ss pp).mono fun u H1 ⟨x, m1, ρ1, A, p1⟩ => ?_)
  unfold recvR at p1
  split at p1
  · rename_i hr
    refine ⟨tyV_list hW A.sim A.rep hr, ?_⟩
    refine qa σ H1 ρ1 l m1 _ A.ss A.sim ((PostL.bind A.ss p1).mono fun us H2 ⟨xs, m2, ρ2, B, p2⟩ => ?_)
    exact ⟨ρ2, m2, x, xs, B.sim, A.rep.ext B.ext, B.rep, p2.nx fun _ _ _ => bmop_nx⟩
  · exact p1.elim
theorem se_bm0 {id : String} {mn : PySem.Str} {apos : Pos} {b : BM} (hW : W.K = X.K) (pa : PlainAttrs "list") (slot : Slot "list" mn id) (hty : typeOf (.builtin id) = pure (.type "method_descriptor")) (hm : MtR X id (rBm W b))
    (hbase : attributeBase o mn X.env (eval o X.env) = eval o X.env) (hline : (apos.endLine == pos.line) = true) (ho : SE X W wx o fo) :
    SE X W wx (.Call (.Attribute o mn apos) [] [] pos) (fun l m => (fo l m).bind fun x m1 => recvR b x (fun m => (Res.ok ([] : List Val) m).bind fun vs m2 => bmop b x vs m2) m1) := by
  obtain ⟨to, po, qo⟩ := ho.ex
  refine ⟨_, pe_bm0 pa slot hty hm po hbase hline, fun σ H ρ l m Q ss s pp => ?_⟩
  refine qo σ H ρ l m _ ss s ((Post.bind ss pp).mono fun u H1 ⟨x, m1, ρ1, A, p1⟩ => ?_)
  unfold recvR at p1
  split at p1
  · rename_i hr
    exact ⟨tyV_list hW A.sim A.rep hr, ρ1, m1, x, [], A.sim, A.rep, .nil, p1.nx fun _ _ _ => bmop_nx⟩
  · exact p1.elim
theorem se_dead : SE X W wx e (fun _ _ => .err) := ⟨fun _ _ _ => False, ⟨fun _ _ _ _ _ _ h => h.elim⟩, fun σ H ρ l m Q ss s p => p.elim⟩
end
end Py

namespace Py
open PySem PySem.Spec PyProof.Rows L2

/-! ### what a text must look like -/
def isStar : Expr → Bool
  | .Starred _ _ => true
  | _ => false
def isSlice : Expr → Bool
  | .Slice _ _ _ _ => true
  | _ => false
def isSetD : Expr → Bool
  | .Set _ _ _ => true
  | _ => false
def isCompr : Expr → Bool
  | .ListComp _ _ _ _ => true
  | .SetComp _ _ _ _ => true
  | .DictComp _ _ _ _ _ => true
  | _ => false
def noSuper : Expr → Bool
  | .Call (.Name id _) _ _ _ => id != "super"
  | _ => true
/-- a form whose truth is asked of its value -/
def isPl : Expr → Bool
  | .UnaryOp .Not _ _ => false
  | .BoolOp _ _ _ => false
  | .IfExp _ _ _ _ => false
  | .Compare _ _ _ _ => false
  | _ => true
section
variable {env : Env} {a e o : Expr} {es : List Expr}
theorem star_cons (h : isStar a = false) : starEach (a :: es) env = (false, eval a env) :: starEach es env := by
  cases a <;> first | rfl | cases h
theorem back_plain {pos : Pos} : ∀ {es : List Expr}, es.all (fun x => !isStar x) = true → (backTo pos (starEach es env)).any (·.1) = false
  | [], _ => rfl
  | a :: es, h => by
    rw [List.all_cons, Bool.and_eq_true] at h
    have h1 : isStar a = false := by simpa using h.1
    rw [star_cons h1]
    show (false || (backTo pos (starEach es env)).any (·.1)) = false
    rw [back_plain h.2]; rfl
theorem back_all {pos : Pos} : ∀ {es : List Expr}, es.all (fun x => !isStar x) = true → (backTo pos (starEach es env)).all (fun x => !x.1) = true
  | [], _ => rfl
  | a :: es, h => by
    rw [List.all_cons, Bool.and_eq_true] at h
    have h1 : isStar a = false := by simpa using h.1
    rw [star_cons h1]
    show (true && (backTo pos (starEach es env)).all (fun x => !x.1)) = true
    rw [back_all h.2]; rfl
theorem base_plain {at_ : PySem.Str} {w : Sem Value} (h : noSuper o = true) : attributeBase o at_ env w = w := by
  cases o with
  | Call f as ks p =>
    cases f with
    | Name id q =>
      have h' : (id != "super") = true := h
      cases as with
      | cons _ _ => rfl
      | nil =>
        cases ks with
        | cons _ _ => rfl
        | nil =>
          unfold attributeBase
          simp only [h', Bool.true_or, if_true]
    | _ => rfl
  | _ => rfl
theorem fold_plain (h : isSetD e = false) : ∀ x, foldedSetIterable e env x = pure x := by
  intro x
  cases e <;> first | rfl | cases h
theorem ix_plain (h : isSlice e = false) : PlainIx e := by
  intro o i
  cases e <;> first | rfl | cases h
theorem swaps_plain {t : Option Expr} {n : Nat} (h : isCompr e = false) : swapsWith e t n env = pure false := by
  cases e <;> first | rfl | cases h
theorem true_plain (h : isPl e = true) : ∀ whole, isTrue e env whole = (do let v ← whole; standAt e.pos; holding [v] (truthy v)) := by
  intro w
  cases e with
  | UnaryOp op _ _ => cases op <;> first | rfl | cases h
  | _ => first | rfl | cases h
end

/-! ### names -/
def nmOk (x : PySem.Str) : Bool := (x == ("__debug__" : PySem.Str)) == false && (x == ("__classdict__" : PySem.Str)) == false
def isVis (sc : Scope) (x : PySem.Str) : Bool := match sc.names.lookup x with
  | some .local => true
  | some .cell => true
  | some .free => true
  | _ => false
def isLoc (sc : Scope) (fb : PySem.Str → Bool) (x : PySem.Str) : Bool := match sc.names.lookup x with
  | some .local => true
  | some .cell => fb x
  | _ => false
def isGl (sc : Scope) (x : PySem.Str) : Bool := match sc.names.lookup x with
  | some .globalImplicit => true
  | _ => false
def bltName : Blt → String
  | .len => "len" | .min => "min" | .max => "max" | .abs => "abs" | .int => "int" | .sum => "sum" | .list => "list" | .tuple => "tuple"
def bmName : BM → String
  | .append => "append" | .pop => "pop" | .reverse => "reverse" | .clear => "clear"
def callable (P : Prog) (f : PySem.Str) : Bool := match P.ent f with
  | some (.fn _) => true
  | some (.cls _) => true
  | _ => false
def litOk (c : Const) (v : Val) : Bool := match c, v with
  | .none, .none => true
  | .bool b, .bool d => b == d
  | .int i, .int j => decide (i = j)
  | .str s, .str t => decide (s.cps.toList = t) && okS t
  | _, _ => false
def argsOk (es : List Expr) : Bool := es.all (fun x => !isStar x) && decide (es.length < 29)

/-! ### targets -/
mutual
def chkT (N : List PySem.Str) (sc : Scope) (fb : PySem.Str → Bool) : Expr → Tg → Bool
  | e, .name i => match e with
    | .Name x _ => decide (N[i]? = some x) && isLoc sc fb x
    | _ => false
  | e, .tup ts => match e with
    | .Tuple es _ _ => chkTs N sc fb es ts
    | _ => false
def chkTs (N : List PySem.Str) (sc : Scope) (fb : PySem.Str → Bool) : List Expr → List Tg → Bool
  | es, [] => es.isEmpty
  | es, t :: ts => match es with
    | e :: es' => !isStar e && chkT N sc fb e t && chkTs N sc fb es' ts
    | [] => false
end
def ownOf (N : List PySem.Str) (t : Tg) : List (PySem.Str × Nat) := t.slots.map fun i => (N.getD i "", i)
def cellB (scope : Scope) (x : PySem.Str) : Bool := scope.names.lookup x == some .cell

/-! ### expressions -/
mutual
def chkE (P : Prog) (fre N : List PySem.Str) (sc : Scope) (fb : PySem.Str → Bool) : Expr → E → Bool
  | e, .lit v => match e with
    | .Constant c _ _ => litOk c v
    | _ => false
  | e, .var i => match e with
    | .Name x _ => decide (N[i]? = some x) && isVis sc x && nmOk x
    | _ => false
  | e, .glob x => match e with
    | .Name y _ => decide (y = x) && isGl sc x && nmOk x
    | _ => false
  | e, .bin o a b => match e with
    | .BinOp l p r _ => decide (p = opOf o) && chkE P fre N sc fb l a && chkE P fre N sc fb r b
    | _ => false
  | e, .neg a => match e with
    | .UnaryOp .USub x _ => chkE P fre N sc fb x a
    | _ => false
  | e, .cmp o a b => match e with
    | .Compare l [p] [r] _ => decide (p = copOf o) && !behindInMarks p r && chkE P fre N sc fb l a && chkE P fre N sc fb r b
    | _ => false
  | e, .chain o1 o2 a b c => match e with
    | .Compare l [p, q] [r, s] _ => decide (p = copOf o1) && decide (q = copOf o2) && !lastMarks [p, q] [r, s] && chkE P fre N sc fb l a && chkE P fre N sc fb r b && chkE P fre N sc fb s c
    | _ => false
  | e, .band a b => match e with
    | .BoolOp .And (x :: y :: r) pos => chkE P fre N sc fb x a && (match r with
      | [] => chkE P fre N sc fb y b
      | z :: r' => chkE P fre N sc fb (.BoolOp .And (y :: z :: r') pos) b)
    | _ => false
  | e, .bor a b => match e with
    | .BoolOp .Or (x :: y :: r) pos => chkE P fre N sc fb x a && (match r with
      | [] => chkE P fre N sc fb y b
      | z :: r' => chkE P fre N sc fb (.BoolOp .Or (y :: z :: r') pos) b)
    | _ => false
  | e, .bnot a => match e with
    | .UnaryOp .Not x _ => chkE P fre N sc fb x a
    | _ => false
  | e, .ite c a b => match e with
    | .IfExp x y z _ => chkE P fre N sc fb x c && chkE P fre N sc fb y a && chkE P fre N sc fb z b
    | _ => false
  | e, .tup es => match e with
    | .Tuple xs _ _ => chkL P fre N sc fb xs es
    | _ => false
  | e, .lst es => match e with
    | .List xs _ => chkL P fre N sc fb xs es
    | _ => false
  | _, .dct _ _ _ => false
  | e, .call f es => match e with
    | .Call (.Name g _) xs [] _ => decide (g = f) && isGl sc f && nmOk f && callable P f && argsOk xs && chkL P fre N sc fb xs es
    | _ => false
  | e, .blt f es => match e with
    | .Call (.Name g _) xs [] _ => decide (g = bltName f) && isGl sc (bltName f) && fre.contains (bltName f : PySem.Str) && !xs.isEmpty && argsOk xs && chkL P fre N sc fb xs es
    | _ => false
  | e, .lenO a => match e with
    | .Call (.Name g _) [x] [] _ => decide (g = "len") && isGl sc "len" && fre.contains ("len" : PySem.Str) && !isStar x && chkE P fre N sc fb x a
    | _ => false
  | e, .listO a => match e with
    | .Call (.Name g _) [x] [] _ => decide (g = "list") && isGl sc "list" && fre.contains ("list" : PySem.Str) && !isStar x && chkE P fre N sc fb x a
    | _ => false
  | e, .join o a => match e with
    | .Call (.Attribute x g apos) [y] [] pos => decide (g = "join") && noSuper x && (apos.endLine == pos.line) && !isStar y && chkE P fre N sc fb x o && chkE P fre N sc fb y a
    | _ => false
  | e, .bm o f es => match e with
    | .Call (.Attribute x g apos) xs [] pos => decide (g = bmName f) && noSuper x && (apos.endLine == pos.line) && argsOk xs && chkE P fre N sc fb x o && chkL P fre N sc fb xs es
    | _ => false
  | e, .isi a ty => match e with
    | .Call (.Name g _) [x, .Name t _] [] _ => decide (g = "isinstance") && decide (t = tyStr ty) && decide (ty ≠ .none) && isGl sc "isinstance" && isGl sc (tyStr ty) && fre.contains ("isinstance" : PySem.Str) && fre.contains (tyStr ty : PySem.Str) && !isStar x && chkE P fre N sc fb x a
    | _ => false
  | e, .meth o f es => match e with
    | .Call (.Attribute x g apos) xs [] pos => decide (g = f) && noSuper x && (apos.endLine == pos.line) && argsOk xs && chkE P fre N sc fb x o && chkL P fre N sc fb xs es
    | _ => false
  | e, .attr o f => match e with
    | .Attribute x g _ => decide (g = f) && noSuper x && chkE P fre N sc fb x o
    | _ => false
  | e, .idx a i => match e with
    | .Subscript x y _ => !isSlice y && chkE P fre N sc fb x a && chkE P fre N sc fb y i
    | _ => false
  | e, .sliceB a lo hi => match e with
    | .Subscript x (.Slice (some y) (some z) none _) _ => chkE P fre N sc fb x a && chkE P fre N sc fb y lo && chkE P fre N sc fb z hi
    | _ => false
  | e, .sliceL a lo => match e with
    | .Subscript x (.Slice (some y) none none _) _ => chkE P fre N sc fb x a && chkE P fre N sc fb y lo
    | _ => false
  | e, .sliceH a hi => match e with
    | .Subscript x (.Slice none (some z) none _) _ => chkE P fre N sc fb x a && chkE P fre N sc fb z hi
    | _ => false
  | e, .comp elt t it => match e with
    | .ListComp x [⟨tg, iter, [], ia⟩] scope _ => decide (ia = 0) && !isSetD iter && blkC N sc scope (ownOf N t) && chkI P fre N sc fb iter it && chkT N (relS scope sc) (cellB scope) tg t && chkE P fre N (relS scope sc) (cellB scope) x elt
    | _ => false
  | e, .compIf elt t it c => match e with
    | .ListComp x [⟨tg, iter, [y], ia⟩] scope _ => decide (ia = 0) && !isSetD iter && blkC N sc scope (ownOf N t) && chkI P fre N sc fb iter it && chkT N (relS scope sc) (cellB scope) tg t && chkE P fre N (relS scope sc) (cellB scope) y c && chkE P fre N (relS scope sc) (cellB scope) x elt
    | _ => false
def chkL (P : Prog) (fre N : List PySem.Str) (sc : Scope) (fb : PySem.Str → Bool) : List Expr → List E → Bool
  | xs, [] => xs.isEmpty
  | xs, e :: es => match xs with
    | x :: xs' => !isStar x && chkE P fre N sc fb x e && chkL P fre N sc fb xs' es
    | [] => false
def chkI (P : Prog) (fre N : List PySem.Str) (sc : Scope) (fb : PySem.Str → Bool) : Expr → Py.It → Bool
  | x, .seq e => chkE P fre N sc fb x e
  | x, .own e => chkE P fre N sc fb x e
  | x, .range1 a => match x with
    | .Call (.Name g _) [y] [] _ => decide (g = "range") && isGl sc "range" && fre.contains ("range" : PySem.Str) && !isStar y && chkE P fre N sc fb y a
    | _ => false
  | x, .range2 a b => match x with
    | .Call (.Name g _) [y, z] [] _ => decide (g = "range") && isGl sc "range" && fre.contains ("range" : PySem.Str) && !isStar y && !isStar z && chkE P fre N sc fb y a && chkE P fre N sc fb z b
    | _ => false
  | _, .zip _ _ => false
end
end Py

namespace Py
open PySem PySem.Spec PyProof.Rows L2

/-! ### what is known of the world -/
/-- addresses and function objects by key -/
structure Tbl where
  ad : PySem.Str → Addr
  fd : PySem.Str → FuncData
  ps : PySem.Str → List PySem.Str
structure Facts (P : Prog) (fre : List PySem.Str) (W : Wd) (mg : PySem.Str → Option Value) (T : Tbl) : Prop where
  fn : ∀ x f, P.ent x = some (.fn f) → mg x = some (.ref (T.ad x)) ∧ PySem.W.keepIn W.K (.ref (T.ad x)) = true ∧ Binds W.K (T.fd x) (T.ps x) []
  cls : ∀ c i, P.ent c = some (.cls i) → mg c = some (.ref (W.cad c)) ∧ Cls W.K (W.cad c) ∧ Mk W.K (W.cad c) (T.ad i) ∧ (∃ f, P.ent i = some (.mth f))
  mth : ∀ x f, P.ent x = some (.mth f) → Binds W.K (T.fd x) (T.ps x) []
  meth : ∀ c m q, P.meth c m = some q → Meth W.K (W.cad c) m (T.ad q) ∧ (∃ f, P.ent q = some (.mth f))
  prop : ∀ c f q, P.prop c f = some q → (∃ p, PropOf W.K (W.cad c) f p (T.ad q)) ∧ (∃ fn, P.ent q = some (.mth fn))
  noat : ∀ c f, (P.flds c).contains f = true → NoAttr W.K (W.cad c) f
  free : ∀ x, fre.contains x = true → mg x = none
  glob : ∀ x v, P.glob x = some v → ∃ u w, mg x = some w ∧ RelV u w ∧ ∀ ρ n H, Rep W.K ρ n H v u
def Lv (P : Prog) (W : Wd) (T : Tbl) (prog : Program) (w : World) (mg : PySem.Str → Option Value) (base : Heap) (d : Nat) : Prop :=
  ∀ x f, P.ent x = some (.fn f) ∨ P.ent x = some (.mth f) → FnOk prog w W.K mg base (L2.CX prog w) (5 * d + 1) (T.ad x) (T.fd x) (T.ps x) (spC W (callN P d) x)
structure Good (P : Prog) (fre : List PySem.Str) (T : Tbl) (d : Nat) (X : Cx) (W : Wd) (wx : WX) (N : List PySem.Str) (sc : Scope) (fb : PySem.Str → Bool) : Prop where
  k : W.K = X.K
  calm : X.calm = true
  room : Room (5 * d + 5) X.A
  nm : X.N = N
  nd : X.N.Nodup
  sc : X.env.scope = sc
  tk : Takes X wx
  fn : ∀ x, fb x = true → X.fn x = true
  fac : Facts P fre W X.mg T
  lv : ∀ j, j ≤ d → Lv P W T X.prog X.w X.mg X.base j
  it : ∀ c f, P.iter c = some f → IterP X.prog X.w X.K X.mg X.base W c f

section
variable {P : Prog} {fre : List PySem.Str} {T : Tbl} {d : Nat} {X : Cx} {W : Wd} {wx : WX} {N : List PySem.Str} {sc : Scope} {fb : PySem.Str → Bool}
theorem Good.units (g : Good P fre T d X W wx N sc fb) : X.A.units + 65 < cLine := by have := g.room.un; omega
theorem Good.rm (g : Good P fre T d X W wx N sc fb) : Room (5 * d + 1) X.A := g.room.mono (by omega)
theorem Good.vis (g : Good P fre T d X W wx N sc fb) {x : PySem.Str} (h : isVis sc x = true) : Vis X.env.scope x := by
  rw [g.sc]
  unfold isVis at h
  unfold Vis
  split at h <;> simp_all
theorem Good.loc (g : Good P fre T d X W wx N sc fb) {x : PySem.Str} (h : isLoc sc fb x = true) : L2.Loc X.env.scope x ∧ (X.fn x = true ∨ X.env.scope.names.lookup x = some .local) := by
  rw [g.sc]
  unfold isLoc at h
  unfold L2.Loc
  split at h
  · rename_i e; exact ⟨.inl e, .inr e⟩
  · rename_i e; exact ⟨.inr e, .inl (g.fn _ h)⟩
  · cases h
theorem Good.gl (g : Good P fre T d X W wx N sc fb) {x : PySem.Str} (h : isGl sc x = true) : Gl X x := by
  unfold Gl
  unfold isGl at h
  show X.env.scope.names.lookup x = _
  rw [g.sc]
  split at h
  · assumption
  · cases h
theorem nm1 {x : PySem.Str} (h : nmOk x = true) : (x == ("__debug__" : PySem.Str)) = false ∧ (x == ("__classdict__" : PySem.Str)) = false := by
  unfold nmOk at h
  rw [Bool.and_eq_true] at h
  exact ⟨by simpa using h.1, by simpa using h.2⟩
theorem Good.blk (g : Good P fre T d X W wx N sc fb) (s : Shared) (H : Hp) (scope : Scope) (C : Addr) (cl : List (PySem.Str × Addr)) (fp : List Addr) :
    Good P fre T d (X.blk s H scope (compEnvC scope cl C X.env) fp) W (fun _ _ _ _ => False) N (relS scope sc) (cellB scope) where
  k := g.k
  calm := g.calm
  room := g.room
  nm := g.nm
  nd := g.nd
  sc := by rw [← g.sc]; rfl
  tk := takes0
  fn := fun _ h => h
  fac := g.fac
  lv := g.lv
  it := g.it

theorem sb_dead {e : Expr} : SB X W wx e (fun _ _ => .err) := ⟨se_dead, ⟨fun _ _ _ => False, ⟨fun _ _ _ _ _ _ h => h.elim⟩, fun σ H ρ l m Q ss s p => p.elim⟩⟩
theorem SB.bool {op : BoolOp} {vs : List Expr} {pos : Pos} {f : Py.Loc → Mem → Res Val} (h : SB X W wx (.BoolOp op vs pos) f) : SW X W wx (.BoolOp op vs pos) f := by
  refine ⟨h.ve, ?_⟩
  obtain ⟨t, p, q⟩ := h.te.ex
  exact ⟨t, ⟨fun whole pins s σ H Q I hh => p.run pins s σ H Q I hh⟩, q⟩

theorem lit_ok {c : Const} {v : Val} {j : Nat} {pos : Pos} (h : litOk c v = true) : SE X W wx (.Constant c j pos) (fun _ m => .ok v m) := by
  unfold litOk at h
  split at h
  · exact se_of pe_non (fun σ H Q q => q) (fun ρ n H => .none)
  · rename_i b d
    have e : b = d := by simpa using h
    subst e
    exact se_of pe_bl (fun σ H Q q => q) (fun ρ n H => .bool b)
  · rename_i i k
    have e := of_decide_eq_true h
    subst e
    exact se_of pe_int (fun σ H Q q => q) (fun ρ n H => .int i)
  · rename_i s t
    rw [Bool.and_eq_true] at h
    have e := of_decide_eq_true h.1
    have e2 : s = sv t := by rw [← e]; exact (sv_of s).symm
    rw [e2]
    exact se_of pe_str (fun σ H Q q => q) (fun ρ n H => .str t h.2)
  · cases h

theorem blt_ok {f : Blt} {e : Expr} {es : List Expr} {fr : Py.Loc → Mem → Res (List Val)} {p pos : Pos} (hk : W.K = X.K) (hc : X.calm = true) (hg : Gl X (bltName f)) (hm : X.mg (bltName f) = none)
    (he : starEach (e :: es) X.env = (false, eval e X.env) :: starEach es X.env) (hpl : (backTo pos (starEach es X.env)).any (·.1) = false) (ha : SA X W wx (e :: es) fr) :
    SE X W wx (.Call (.Name (bltName f) p) (e :: es) [] pos) (fun l m => gc m ((fr l m).bind fun vs m1 => bltop f vs m1)) := by
  cases f with
  | len => exact se_blt (b_len hk) hg hm (by decide +kernel) (by decide +kernel) (by decide +kernel) he hpl ha
  | min => exact se_blt (b_min hc) hg hm (by decide +kernel) (by decide +kernel) (by decide +kernel) he hpl ha
  | max => exact se_blt (b_max hc) hg hm (by decide +kernel) (by decide +kernel) (by decide +kernel) he hpl ha
  | abs => exact se_blt b_abs hg hm (by decide +kernel) (by decide +kernel) (by decide +kernel) he hpl ha
  | int => exact se_bltT b_int hg hm (by decide +kernel) (by decide +kernel) (by decide +kernel) he hpl ha
  | sum => exact se_blt (b_sum hk hc) hg hm (by decide +kernel) (by decide +kernel) (by decide +kernel) he hpl ha
  | list => exact se_bltT (b_list hk) hg hm (by decide +kernel) (by decide +kernel) (by decide +kernel) he hpl ha
  | tuple => exact se_bltT (b_tuple hk) hg hm (by decide +kernel) (by decide +kernel) (by decide +kernel) he hpl ha

theorem args1 {a : Expr} {es : List Expr} (h : argsOk (a :: es) = true) : isStar a = false ∧ es.all (fun x => !isStar x) = true ∧ (a :: es).length < 29 := by
  unfold argsOk at h
  rw [Bool.and_eq_true, List.all_cons, Bool.and_eq_true] at h
  exact ⟨by simpa using h.1.1, h.1.2, of_decide_eq_true h.2⟩
theorem args_all {es : List Expr} (h : argsOk es = true) : es.all (fun x => !isStar x) = true := by
  unfold argsOk at h
  rw [Bool.and_eq_true] at h
  exact h.1

theorem bm_ok {f : BM} {o : Expr} {es : List Expr} {fo : Py.Loc → Mem → Res Val} {fr : Py.Loc → Mem → Res (List Val)} {apos pos : Pos} (hk : W.K = X.K) (hb : noSuper o = true) (hl : (apos.endLine == pos.line) = true) (has : argsOk es = true)
    (ho : SE X W wx o fo) (ha : SA X W wx es fr) (h0 : es = [] → fr = fun _ m => .ok [] m) :
    SE X W wx (.Call (.Attribute o (bmName f) apos) es [] pos) (fun l m => (fo l m).bind fun x m1 => recvR f x (fun m => (fr l m).bind fun vs m2 => bmop f x vs m2) m1) := by
  cases es with
  | nil =>
    rw [h0 rfl]
    cases f with
    | append => exact se_bm0 hk PySem.F.plainAttrs_list PySem.F.slot_list_append PySem.F.type_list_append m_append (base_plain hb) hl ho
    | pop => exact se_bm0 hk PySem.F.plainAttrs_list PySem.F.slot_list_pop PySem.F.type_list_pop m_pop (base_plain hb) hl ho
    | reverse => exact se_bm0 hk PySem.F.plainAttrs_list PySem.F.slot_list_reverse PySem.F.type_list_reverse m_reverse (base_plain hb) hl ho
    | clear => exact se_bm0 hk PySem.F.plainAttrs_list PySem.F.slot_list_clear PySem.F.type_list_clear m_clear (base_plain hb) hl ho
  | cons e es =>
    obtain ⟨h1, h2, h3⟩ := args1 has
    have hfew : ((backTo pos (starEach (e :: es) X.env)).all (fun x => !x.1) && (backToKw pos (keywordEach [] X.env)).all (fun x => x.1.isSome)
      && decide ((e :: es).length + ([] : List Keyword).length + (if ([] : List Keyword).isEmpty then 0 else 1) < 30)) = true := by
      rw [back_all (args_all has), Bool.and_eq_true, Bool.and_eq_true]
      exact ⟨⟨rfl, rfl⟩, decide_eq_true (by
        show (e :: es).length + 0 + 0 < 30
        omega)⟩
    cases f with
    | append => exact se_bm hk PySem.F.plainAttrs_list PySem.F.slot_list_append PySem.F.type_list_append m_append (base_plain hb) hl ho ha hfew (star_cons h1) (back_plain h2)
    | pop => exact se_bm hk PySem.F.plainAttrs_list PySem.F.slot_list_pop PySem.F.type_list_pop m_pop (base_plain hb) hl ho ha hfew (star_cons h1) (back_plain h2)
    | reverse => exact se_bm hk PySem.F.plainAttrs_list PySem.F.slot_list_reverse PySem.F.type_list_reverse m_reverse (base_plain hb) hl ho ha hfew (star_cons h1) (back_plain h2)
    | clear => exact se_bm hk PySem.F.plainAttrs_list PySem.F.slot_list_clear PySem.F.type_list_clear m_clear (base_plain hb) hl ho ha hfew (star_cons h1) (back_plain h2)

/-! targets -/
mutual
theorem okT (hk : W.K = X.K) (hc : X.calm = true) (hn : X.N = N) (hd : X.N.Nodup) (hl : ∀ x, isLoc sc fb x = true → L2.Loc X.env.scope x ∧ (X.fn x = true ∨ X.env.scope.names.lookup x = some .local)) : ∀ (t : Tg) (e : Expr), chkT N sc fb e t = true → PG X e (gSem W t)
  | .name i, e, h => by
    unfold chkT at h
    split at h
    · rw [Bool.and_eq_true] at h
      have q := hl _ h.2
      exact sg_name hd (by rw [hn]; exact of_decide_eq_true h.1) q.1 q.2
    · cases h
  | .tup ts, e, h => by
    unfold chkT at h
    split at h
    · obtain ⟨p, a, b⟩ := okTs hk hc hn hd hl ts _ h
      exact sg_tup hk hc p a b
    · cases h
theorem okTs (hk : W.K = X.K) (hc : X.calm = true) (hn : X.N = N) (hd : X.N.Nodup) (hl : ∀ x, isLoc sc fb x = true → L2.Loc X.env.scope x ∧ (X.fn x = true ∨ X.env.scope.names.lookup x = some .local)) : ∀ (ts : List Tg) (es : List Expr), chkTs N sc fb es ts = true →
    PGs X es (gSems W ts) ∧ (assignEach es X.env).length = ts.length ∧ (assignEach es X.env).findIdx? (·.1) = none
  | [], es, h => by
    unfold chkTs at h
    cases es with
    | nil => exact ⟨sg_nil, rfl, rfl⟩
    | cons _ _ => cases h
  | t :: ts, es, h => by
    unfold chkTs at h
    cases es with
    | nil => cases h
    | cons e es =>
      simp only [Bool.and_eq_true] at h
      obtain ⟨⟨h1, h2⟩, h3⟩ := h
      have h1' : isStar e = false := by simpa using h1
      have e1 : assignEach (e :: es) X.env = (false, assign e X.env) :: assignEach es X.env := by cases e <;> first | rfl | cases h1'
      obtain ⟨p, a, b⟩ := okTs hk hc hn hd hl ts es h3
      refine ⟨sg_cons (okT hk hc hn hd hl t e h2) p (by rw [e1]; rfl), by rw [e1]; exact congrArg Nat.succ a, ?_⟩
      rw [e1, List.findIdx?_cons, b]; rfl
end

end
end Py

namespace Py
open PySem PySem.Spec PyProof.Rows L2

section
variable {X : Cx} {W : Wd} {wx : WX} {e : Expr} {f g : Py.Loc → Mem → Res Val}
theorem SB.of (h : SB X W wx e f) (q : ∀ l m, g l m = f l m) : SB X W wx e g := by
  have e : g = f := by funext l m; exact q l m
  rw [e]; exact h
theorem SE.of (h : SE X W wx e f) (q : ∀ l m, g l m = f l m) : SE X W wx e g := by
  have e : g = f := by funext l m; exact q l m
  rw [e]; exact h
end
theorem SA.of {X : Cx} {W : Wd} {wx : WX} {es : List Expr} {f g : Py.Loc → Mem → Res (List Val)} (h : SA X W wx es f) (q : ∀ l m, g l m = f l m) : SA X W wx es g := by
  have e : g = f := by funext l m; exact q l m
  rw [e]; exact h
theorem SI.of {X : Cx} {W : Wd} {wx : WX} {tg iter : Expr} {f g : Py.Loc → Mem → Res (List Val × Option (Nat × List Val))} (h : SI X W wx tg iter f) (q : ∀ l m, g l m = f l m) : SI X W wx tg iter g := by
  have e : g = f := by funext l m; exact q l m
  rw [e]; exact h
theorem callN_dead {P : Prog} {d : Nat} {f : PySem.Str} {vs : List Val} {m : Mem} (h : P.ent f = none) : callN P d f vs m = .err := by
  cases d with
  | zero => rfl
  | succ d => unfold callN; rw [h]

/-- what a comprehension's parts give -/
def CompS (X : Cx) (W : Wd) (wx : WX) (e : Expr) (f : Py.Loc → Mem → Res Val) : Prop :=
  ∃ t' : TE, PE X e t' ∧
      (∀ {i : Nat} {y : PySem.Str} {py spos : Pos}, X.N[i]? = some y → X.env.scope.names.lookup y = some .local → swapsWith e (some (.Name y py)) spos.line X.env = pure true →
        PS X (.Assign [.Name y py] e spos) (tAsg t' (gName i))) ∧
      ∀ (σ : L2.St) (H : Hp) (ρ : Nat → Addr) (l : Py.Loc) (m : Mem) (Q : VK), SimS W.K ρ m.length H l σ → Sim W ρ m H → Post W wx σ ρ m.length H (f l m) Q → t' σ H Q
theorem CompS.se {X : Cx} {W : Wd} {wx : WX} {e : Expr} {f : Py.Loc → Mem → Res Val} (h : CompS X W wx e f) : SE X W wx e f := let ⟨t, p, _, q⟩ := h; ⟨t, p, q⟩
theorem CompS.of {X : Cx} {W : Wd} {wx : WX} {e : Expr} {f g : Py.Loc → Mem → Res Val} (h : CompS X W wx e f) (q : ∀ l m, g l m = f l m) : CompS X W wx e g := by
  have e : g = f := by funext l m; exact q l m
  rw [e]; exact h
theorem ownOf_slots {N : List PySem.Str} {t : Tg} : (ownOf N t).map (·.2) = t.slots := by
  unfold ownOf
  rw [List.map_map]
  exact List.map_id' _

section
variable {P : Prog} {fre : List PySem.Str} {T : Tbl} {d : Nat} {N : List PySem.Str}
theorem compS_of {X : Cx} {W : Wd} {wx : WX} {sc : Scope} {fb : PySem.Str → Bool} {elt iter tg : Expr} {fi : Py.Loc → Mem → Res (List Val × Option (Nat × List Val))} {fe : Py.Loc → Mem → Res Val} {t : Tg} {scope : Scope} {pos : Pos}
    (g : Good P fre T d X W wx N sc fb) (hs : isSetD iter = false) (hb : blkC N sc scope (ownOf N t) = true) (hi : SI X W wx tg iter fi) (ht : chkT N (relS scope sc) (cellB scope) tg t = true)
    (he : ∀ X', Good P fre T d X' W (fun _ _ _ _ => False) N (relS scope sc) (cellB scope) → SB X' W (fun _ _ _ _ => False) elt fe) :
    CompS X W wx (.ListComp elt [⟨tg, iter, [], 0⟩] scope pos) (fun l m => (fi l m).bind fun w m1 => compEnd (compLoop w.2 (compEl t l fe) w.1 m1)) := by
  have ok : BlkOk X.N X.env.scope scope (ownOf N t) := by
    rw [g.sc, g.nm]; exact blkOk_by hb
  exact se_compG (fc := none) (fe := fe) g.calm g.nd hi ok ownOf_slots (fun s H C cl fp => okT (X := X.blk s H scope (compEnvC scope cl C X.env) fp) g.k g.calm g.nm g.nd (fun x hx => (g.blk s H scope C cl fp).loc hx) t tg ht)
    (fun s H C cl fp => pts_nil) (fun s H C cl fp => (he _ (g.blk s H scope C cl fp)).ve.pe) (fold_plain hs)
theorem compSIf_of {X : Cx} {W : Wd} {wx : WX} {sc : Scope} {fb : PySem.Str → Bool} {elt iter tg cd : Expr} {fi : Py.Loc → Mem → Res (List Val × Option (Nat × List Val))} {fe fc : Py.Loc → Mem → Res Val} {t : Tg} {scope : Scope} {pos : Pos}
    (g : Good P fre T d X W wx N sc fb) (hs : isSetD iter = false) (hb : blkC N sc scope (ownOf N t) = true) (hi : SI X W wx tg iter fi) (ht : chkT N (relS scope sc) (cellB scope) tg t = true)
    (hc : ∀ X', Good P fre T d X' W (fun _ _ _ _ => False) N (relS scope sc) (cellB scope) → SB X' W (fun _ _ _ _ => False) cd fc)
    (he : ∀ X', Good P fre T d X' W (fun _ _ _ _ => False) N (relS scope sc) (cellB scope) → SB X' W (fun _ _ _ _ => False) elt fe) :
    CompS X W wx (.ListComp elt [⟨tg, iter, [cd], 0⟩] scope pos) (fun l m => (fi l m).bind fun w m1 => compEnd (compLoop w.2 (compElIf t l fc fe) w.1 m1)) := by
  have ok : BlkOk X.N X.env.scope scope (ownOf N t) := by
    rw [g.sc, g.nm]; exact blkOk_by hb
  exact se_compG (fc := some fc) (fe := fe) g.calm g.nd hi ok ownOf_slots (fun s H C cl fp => okT (X := X.blk s H scope (compEnvC scope cl C X.env) fp) g.k g.calm g.nm g.nd (fun x hx => (g.blk s H scope C cl fp).loc hx) t tg ht)
    (fun s H C cl fp => pts_one (hc _ (g.blk s H scope C cl fp)).te.pt) (fun s H C cl fp => (he _ (g.blk s H scope C cl fp)).ve.pe) (fold_plain hs)

theorem call_ok {X : Cx} {W : Wd} {wx : WX} {sc : Scope} {fb : PySem.Str → Bool} {f : PySem.Str} {xs : List Expr} {fr : Py.Loc → Mem → Res (List Val)} {p pos : Pos} (g : Good P fre T d X W wx N sc fb) (hg : isGl sc f = true) (hn : nmOk f = true) (hc : callable P f = true) (has : argsOk xs = true)
    (ha : SA X W wx xs fr) (h0 : xs = [] → fr = fun _ m => .ok [] m) : SE X W wx (.Call (.Name f p) xs [] pos) (fun l m => (fr l m).bind fun vs m1 => callN P d f vs m1) := by
  unfold callable at hc
  cases ef : P.ent f with
  | none => rw [ef] at hc; cases hc
  | some en =>
    rw [ef] at hc
    cases en with
    | mth _ => cases hc
    | fn fd =>
      obtain ⟨h1, h2, h3⟩ := g.fac.fn f fd ef
      have F := g.lv d (Nat.le_refl _) f fd (.inl ef)
      rw [g.k] at F h2 h3
      cases xs with
      | nil => rw [h0 rfl]; exact se_call0 F g.rm (g.gl hg) h1 h2 h3 g.tk (nm1 hn).1
      | cons a as =>
        obtain ⟨s1, s2, _⟩ := args1 has
        exact se_call F g.rm (g.gl hg) h1 h2 h3 g.tk (nm1 hn).1 (star_cons s1) (back_plain s2) ha
    | cls i =>
      obtain ⟨h1, h2, h3, fi, h4⟩ := g.fac.cls f i ef
      have hb := g.fac.mth i fi h4
      obtain ⟨j, F, hr, q⟩ : ∃ j, FnOk X.prog X.w W.K X.mg X.base (L2.CX X.prog X.w) (5 * d) (T.ad i) (T.fd i) (T.ps i) (spC W (callN P j) i) ∧ Room (5 * d + 1) X.A ∧ ∀ vs m1, callN P d f vs m1 = gc m1 ((callN P j i (.ref m1.length :: vs) (m1 ++ [.inst f []])).bind (mkG m1.length)) := by
        cases d with
        | zero =>
          have no : ∀ vs H Q E, ¬ spC W (callN P 0) i vs H Q E := fun vs H Q E ⟨ρ, m, xs, _, _, p⟩ => p
          exact ⟨0, ⟨fun vs H Q E h => absurd h (no vs H Q E), fun A outer s H args us vs Q E _ _ _ _ h => absurd h (no vs H Q E)⟩, g.rm, fun vs m1 => rfl⟩
        | succ j => exact ⟨j, (g.lv j (Nat.le_succ _) i fi (.inr h4)).mono (by omega), g.rm, fun vs m1 => by rw [callN, ef]⟩
      rw [g.k] at F hb h3
      cases xs with
      | nil =>
        rw [h0 rfl]
        exact (se_make0 g.k h2 h3 F hr (g.gl hg) h1 hb g.tk (nm1 hn).1).of fun l m => by
          show callN P d f [] m = _
          rw [q]; rfl
      | cons a as =>
        obtain ⟨s1, s2, _⟩ := args1 has
        exact (se_make g.k h2 h3 F hr (g.gl hg) h1 hb g.tk (nm1 hn).1 (star_cons s1) (back_plain s2) ha).of fun l m => by
          have : (fun vs m1 => callN P d f vs m1) = fun vs m1 => gc m1 ((callN P j i (.ref m1.length :: vs) (m1 ++ [.inst f []])).bind (mkG m1.length)) := by funext vs m1; exact q vs m1
          rw [this]
end
end Py

namespace Py
open PySem PySem.Spec PyProof.Rows L2

section
variable {P : Prog} {fre : List PySem.Str} {T : Tbl} {d : Nat} {N : List PySem.Str}
theorem meth_ok {X : Cx} {W : Wd} {wx : WX} {sc : Scope} {fb : PySem.Str → Bool} {o : Expr} {f : PySem.Str} {xs : List Expr} {fo : Py.Loc → Mem → Res Val} {fr : Py.Loc → Mem → Res (List Val)} {apos pos : Pos} (g : Good P fre T d X W wx N sc fb)
    (hb : noSuper o = true) (hl : (apos.endLine == pos.line) = true) (has : argsOk xs = true) (ho : SE X W wx o fo) (ha : SA X W wx xs fr) (h0 : xs = [] → fr = fun _ m => .ok [] m) :
    SE X W wx (.Call (.Attribute o f apos) xs [] pos) (fun l m => (fo l m).bind fun x m1 => methR P (callN P d) f (fr l) x m1) := by
  have hM : ∀ c0 q, P.meth c0 f = some q → MethOk X W (callN P d) (5 * d + 1) c0 f q := fun c0 q h => by
    obtain ⟨h1, fq, h2⟩ := g.fac.meth c0 f q h
    have F := g.lv d (Nat.le_refl _) q fq (.inr h2)
    have hb := g.fac.mth q fq h2
    rw [g.k] at h1 F hb
    exact ⟨_, _, _, h1, F, hb⟩
  cases xs with
  | nil => rw [h0 rfl]; exact se_meth0 g.k (base_plain hb) hl hM g.rm g.tk ho
  | cons a as =>
    obtain ⟨s1, s2, s3⟩ := args1 has
    have hform : methodCallForm ((a :: as).length + ([] : List Keyword).length) (backTo pos (starEach (a :: as) X.env)) (backToKw pos (keywordEach [] X.env)) = true := by
      unfold methodCallForm
      rw [back_all (args_all has), Bool.and_eq_true, Bool.and_eq_true]
      exact ⟨⟨rfl, rfl⟩, decide_eq_true (by
        show (a :: as).length + 0 + 0 < 30
        omega)⟩
    exact se_meth g.k (base_plain hb) hl hform hM g.rm g.tk (star_cons s1) (back_plain s2) ho ha

theorem meth_all {X : Cx} {W : Wd} {wx : WX} {sc : Scope} {fb : PySem.Str → Bool} {f : PySem.Str} (g : Good P fre T d X W wx N sc fb) : ∀ c0 q, P.meth c0 f = some q → MethOk X W (callN P d) (5 * d + 1) c0 f q := fun c0 q h => by
    obtain ⟨h1, fq, h2⟩ := g.fac.meth c0 f q h
    have F := g.lv d (Nat.le_refl _) q fq (.inr h2)
    have hb := g.fac.mth q fq h2
    rw [g.k] at h1 F hb
    exact ⟨_, _, _, h1, F, hb⟩
theorem prop_all {X : Cx} {W : Wd} {wx : WX} {sc : Scope} {fb : PySem.Str → Bool} {f : PySem.Str} (g : Good P fre T d X W wx N sc fb) : ∀ c0 q, P.prop c0 f = some q → PropOk X W (callN P d) (5 * d + 1) c0 f q := fun c0 q h => by
    obtain ⟨⟨p, h1⟩, fq, h2⟩ := g.fac.prop c0 f q h
    have F := g.lv d (Nat.le_refl _) q fq (.inr h2)
    have hb := g.fac.mth q fq h2
    rw [g.k] at h1 F hb
    exact ⟨_, _, _, _, h1, F, hb⟩

theorem isi_cong {a b : Option TyK} {f g : TyK → Res Val} (h : a = b) (k : ∀ t, f t = g t) : (match a with | some t => f t | none => .err) = (match b with | some t => g t | none => .err) := by
  subst h; cases a with
  | none => rfl
  | some t => exact k t

mutual
theorem okE : ∀ (x : E) {X : Cx} {W : Wd} {wx : WX} {sc : Scope} {fb : PySem.Str → Bool} {e : Expr}, Good P fre T d X W wx N sc fb → chkE P fre N sc fb e x = true → SB X W wx e (evalE P (callN P d) x)
  | .lit v, X, W, wx, sc, fb, e, g, h => by
    unfold chkE at h
    split at h
    · exact SB.plain g.k ((lit_ok h).of fun l m => by rw [evalE] <;> rfl) (true_plain rfl)
    · cases h
  | .var i, X, W, wx, sc, fb, e, g, h => by
    unfold chkE at h
    split at h
    · simp only [Bool.and_eq_true] at h
      obtain ⟨⟨h1, h2⟩, h3⟩ := h
      exact SB.plain g.k ((se_var (by rw [g.nm]; exact of_decide_eq_true h1) (g.vis h2) (nm1 h3).1 (nm1 h3).2).of fun l m => by rw [evalE] <;> rfl) (true_plain rfl)
    · cases h
  | .glob x, X, W, wx, sc, fb, e, g, h => by
    unfold chkE at h
    split at h
    · simp only [Bool.and_eq_true] at h
      obtain ⟨⟨h1, h2⟩, h3⟩ := h
      have e1 := of_decide_eq_true h1
      subst e1
      cases eg : P.glob _ with
      | none => exact sb_dead.of fun l m => by rw [evalE, eg]
      | some v =>
        obtain ⟨u, w, m1, m2, m3⟩ := g.fac.glob _ v eg
        exact SB.plain g.k ((se_of (pe_glob (g.gl h2) m1 m2 (nm1 h3).1) (fun σ H Q q => q) m3).of fun l m => by rw [evalE, eg]) (true_plain rfl)
    · cases h
  | .bin o a b, X, W, wx, sc, fb, e, g, h => by
    unfold chkE at h
    split at h
    · simp only [Bool.and_eq_true] at h
      obtain ⟨⟨h1, h2⟩, h3⟩ := h
      rw [of_decide_eq_true h1]
      exact SB.plain g.k ((se_bin g.k o (okE a g h2).ve (okE b g h3).ve).of fun l m => by rw [evalE] <;> rfl) (true_plain rfl)
    · cases h
  | .neg a, X, W, wx, sc, fb, e, g, h => by
    unfold chkE at h
    split at h
    · exact SB.plain g.k ((se_neg (okE a g h).ve).of fun l m => by rw [evalE] <;> rfl) (true_plain rfl)
    · cases h
  | .cmp o a b, X, W, wx, sc, fb, e, g, h => by
    unfold chkE at h
    split at h
    · simp only [Bool.and_eq_true] at h
      obtain ⟨⟨⟨h1, h2⟩, h3⟩, h4⟩ := h
      have e1 := of_decide_eq_true h1
      subst e1
      exact (sb_cmp g.k g.units o (by simpa using h2) (okE a g h3).ve (okE b g h4).ve).of fun l m => by rw [evalE] <;> rfl
    · cases h
  | .chain o1 o2 a b c, X, W, wx, sc, fb, e, g, h => by
    unfold chkE at h
    split at h
    · simp only [Bool.and_eq_true] at h
      obtain ⟨⟨⟨⟨⟨h1, h2⟩, h3⟩, h4⟩, h5⟩, h6⟩ := h
      have e1 := of_decide_eq_true h1
      have e2 := of_decide_eq_true h2
      subst e1 e2
      exact (sb_chain g.k g.units o1 o2 (by simpa using h3) (okE a g h4).ve (okE b g h5).ve (okE c g h6).ve).of fun l m => by rw [evalE] <;> rfl
    · cases h
  | .band a b, X, W, wx, sc, fb, e, g, h => by
    unfold chkE at h
    split at h
    · rename_i x y r pos
      simp only [Bool.and_eq_true] at h
      obtain ⟨h1, h2⟩ := h
      cases r with
      | nil => exact (sw_and (okE a g h1) (sw_and1 (okE b g h2))).sb.of fun l m => by rw [evalE] <;> rfl
      | cons z r => exact (sw_and (okE a g h1) (okE b g h2).bool).sb.of fun l m => by rw [evalE] <;> rfl
    · cases h
  | .bor a b, X, W, wx, sc, fb, e, g, h => by
    unfold chkE at h
    split at h
    · rename_i x y r pos
      simp only [Bool.and_eq_true] at h
      obtain ⟨h1, h2⟩ := h
      cases r with
      | nil => exact (sw_or (okE a g h1) (sw_or1 (okE b g h2))).sb.of fun l m => by rw [evalE] <;> rfl
      | cons z r => exact (sw_or (okE a g h1) (okE b g h2).bool).sb.of fun l m => by rw [evalE] <;> rfl
    · cases h
  | .bnot a, X, W, wx, sc, fb, e, g, h => by
    unfold chkE at h
    split at h
    · exact (sb_not (okE a g h)).of fun l m => by rw [evalE] <;> rfl
    · cases h
  | .ite c a b, X, W, wx, sc, fb, e, g, h => by
    unfold chkE at h
    split at h
    · simp only [Bool.and_eq_true] at h
      obtain ⟨⟨h1, h2⟩, h3⟩ := h
      exact (sb_ite (okE c g h1) (okE a g h2) (okE b g h3)).of fun l m => by rw [evalE] <;> rfl
    · cases h
  | .tup es, X, W, wx, sc, fb, e, g, h => by
    unfold chkE at h
    split at h
    · exact SB.plain g.k ((se_tup (okL es g h).1).of fun l m => by rw [evalE] <;> rfl) (true_plain rfl)
    · cases h
  | .lst es, X, W, wx, sc, fb, e, g, h => by
    unfold chkE at h
    split at h
    · exact SB.plain g.k ((se_lst (okL es g h).1).of fun l m => by rw [evalE] <;> rfl) (true_plain rfl)
    · cases h
  | .dct tk ks vs, X, W, wx, sc, fb, e, g, h => by
    unfold chkE at h
    cases h
  | .call f es, X, W, wx, sc, fb, e, g, h => by
    unfold chkE at h
    split at h
    · simp only [Bool.and_eq_true] at h
      obtain ⟨⟨⟨⟨⟨h1, h2⟩, h3⟩, h4⟩, h5⟩, h6⟩ := h
      have e1 := of_decide_eq_true h1
      subst e1
      obtain ⟨ha, h0⟩ := okL es g h6
      exact SB.plain g.k ((call_ok g h2 h3 h4 h5 ha h0).of fun l m => by rw [evalE] <;> rfl) (true_plain rfl)
    · cases h
  | .blt f es, X, W, wx, sc, fb, e, g, h => by
    unfold chkE at h
    split at h
    · rename_i g0 p xs pos
      simp only [Bool.and_eq_true] at h
      obtain ⟨⟨⟨⟨⟨h1, h2⟩, h3⟩, h4⟩, h5⟩, h6⟩ := h
      have e1 := of_decide_eq_true h1
      subst e1
      obtain ⟨ha, _⟩ := okL es g h6
      cases xs with
      | nil => cases h4
      | cons y ys =>
        obtain ⟨s1, s2, _⟩ := args1 h5
        exact SB.plain g.k ((blt_ok g.k g.calm (g.gl h2) (g.fac.free _ h3) (star_cons s1) (back_plain s2) ha).of fun l m => by rw [evalE] <;> rfl) (true_plain rfl)
    · cases h
  | .lenO a, X, W, wx, sc, fb, e, g, h => by
    unfold chkE at h
    split at h
    · simp only [Bool.and_eq_true] at h
      obtain ⟨⟨⟨⟨h1, h2⟩, h3⟩, h4⟩, h5⟩ := h
      have e1 := of_decide_eq_true h1
      subst e1
      exact SB.plain g.k ((se_lenO g.k (meth_all g) (g.room.mono (by omega)) (g.gl h2) (g.fac.free _ h3) (star_cons (by simpa using h4)) (okE a g h5).ve).of fun l m => by rw [evalE] <;> rfl) (true_plain rfl)
    · cases h
  | .listO a, X, W, wx, sc, fb, e, g, h => by
    unfold chkE at h
    split at h
    · simp only [Bool.and_eq_true] at h
      obtain ⟨⟨⟨⟨h1, h2⟩, h3⟩, h4⟩, h5⟩ := h
      have e1 := of_decide_eq_true h1
      subst e1
      exact SB.plain g.k ((se_listO g.calm g.k (meth_all g) g.it (g.room.mono (by omega)) (g.gl h2) (g.fac.free _ h3) (star_cons (by simpa using h4)) (okE a g h5).ve).of fun l m => by rw [evalE] <;> rfl) (true_plain rfl)
    · cases h
  | .join o a, X, W, wx, sc, fb, e, g, h => by
    unfold chkE at h
    split at h
    · rename_i x g0 apos y pos
      simp only [Bool.and_eq_true] at h
      obtain ⟨⟨⟨⟨⟨h1, h2⟩, h3⟩, h4⟩, h5⟩, h6⟩ := h
      have e1 := of_decide_eq_true h1
      subst e1
      have h4' : isStar y = false := by simpa using h4
      exact SB.plain g.k ((se_join g.k (base_plain h2) h3 (star_cons h4') (okE o g h5).ve (okE a g h6).ve).of fun l m => by rw [evalE] <;> rfl) (true_plain rfl)
    · cases h
  | .bm o f es, X, W, wx, sc, fb, e, g, h => by
    unfold chkE at h
    split at h
    · simp only [Bool.and_eq_true] at h
      obtain ⟨⟨⟨⟨⟨h1, h2⟩, h3⟩, h4⟩, h5⟩, h6⟩ := h
      have e1 := of_decide_eq_true h1
      subst e1
      obtain ⟨ha, h0⟩ := okL es g h6
      exact SB.plain g.k ((bm_ok g.k h2 h3 h4 (okE o g h5).ve ha h0).of fun l m => by rw [evalE] <;> rfl) (true_plain rfl)
    · cases h
  | .isi a ty, X, W, wx, sc, fb, e, g, h => by
    unfold chkE at h
    split at h
    · simp only [Bool.and_eq_true] at h
      obtain ⟨⟨⟨⟨⟨⟨⟨⟨h1, h2⟩, h3⟩, h4⟩, h5⟩, h6⟩, h7⟩, h8⟩, h9⟩ := h
      have e1 := of_decide_eq_true h1
      have e2 := of_decide_eq_true h2
      subst e1 e2
      exact SB.plain g.k ((se_isi g.k ty (of_decide_eq_true h3) (g.gl h4) (g.fac.free _ h6) (g.gl h5) (g.fac.free _ h7) (star_cons (by simpa using h8)) (okE a g h9).ve).of fun l m => by rw [evalE] <;> rfl) (true_plain rfl)
    · cases h
  | .meth o f es, X, W, wx, sc, fb, e, g, h => by
    unfold chkE at h
    split at h
    · simp only [Bool.and_eq_true] at h
      obtain ⟨⟨⟨⟨⟨h1, h2⟩, h3⟩, h4⟩, h5⟩, h6⟩ := h
      have e1 := of_decide_eq_true h1
      subst e1
      obtain ⟨ha, h0⟩ := okL es g h6
      exact SB.plain g.k ((meth_ok g h2 h3 h4 (okE o g h5).ve ha h0).of fun l m => by rw [evalE] <;> rfl) (true_plain rfl)
    · cases h
  | .attr o f, X, W, wx, sc, fb, e, g, h => by
    unfold chkE at h
    split at h
    · simp only [Bool.and_eq_true] at h
      obtain ⟨⟨h1, h2⟩, h3⟩ := h
      have e1 := of_decide_eq_true h1
      subst e1
      exact SB.plain g.k ((se_attrP g.k (base_plain h2) (prop_all g) (g.room.mono (by omega)) (okE o g h3).ve).of fun l m => by rw [evalE] <;> rfl) (true_plain rfl)
    · cases h
  | .idx a i, X, W, wx, sc, fb, e, g, h => by
    unfold chkE at h
    split at h
    · simp only [Bool.and_eq_true] at h
      obtain ⟨⟨h1, h2⟩, h3⟩ := h
      exact SB.plain g.k ((se_idx g.k (okE a g h2).ve (okE i g h3).ve (ix_plain (by simpa using h1))).of fun l m => by rw [evalE] <;> rfl) (true_plain rfl)
    · cases h
  | .sliceB a lo hi, X, W, wx, sc, fb, e, g, h => by
    unfold chkE at h
    split at h
    · simp only [Bool.and_eq_true] at h
      obtain ⟨⟨h1, h2⟩, h3⟩ := h
      exact SB.plain g.k ((se_sliceB g.k (okE a g h1).ve (okE lo g h2).ve (okE hi g h3).ve).of fun l m => by rw [evalE] <;> rfl) (true_plain rfl)
    · cases h
  | .sliceL a lo, X, W, wx, sc, fb, e, g, h => by
    unfold chkE at h
    split at h
    · simp only [Bool.and_eq_true] at h
      exact SB.plain g.k ((se_sliceL g.k (okE a g h.1).ve (okE lo g h.2).ve).of fun l m => by rw [evalE] <;> rfl) (true_plain rfl)
    · cases h
  | .sliceH a hi, X, W, wx, sc, fb, e, g, h => by
    unfold chkE at h
    split at h
    · simp only [Bool.and_eq_true] at h
      exact SB.plain g.k ((se_sliceH g.k (okE a g h.1).ve (okE hi g h.2).ve).of fun l m => by rw [evalE] <;> rfl) (true_plain rfl)
    · cases h
  | .comp elt t it, X, W, wx, sc, fb, e, g, h => by
    unfold chkE at h
    split at h
    · simp only [Bool.and_eq_true] at h
      obtain ⟨⟨⟨⟨⟨h1, h2⟩, h3⟩, h4⟩, h5⟩, h6⟩ := h
      rw [of_decide_eq_true h1]
      exact SB.plain g.k ((compS_of g (by simpa using h2) h3 (okI it g h4) h5 fun X' g' => okE elt g' h6).se.of fun l m => by rw [evalE] <;> rfl) (true_plain rfl)
    · cases h
  | .compIf elt t it c, X, W, wx, sc, fb, e, g, h => by
    unfold chkE at h
    split at h
    · simp only [Bool.and_eq_true] at h
      obtain ⟨⟨⟨⟨⟨⟨h1, h2⟩, h3⟩, h4⟩, h5⟩, h6⟩, h7⟩ := h
      rw [of_decide_eq_true h1]
      exact SB.plain g.k ((compSIf_of g (by simpa using h2) h3 (okI it g h4) h5 (fun X' g' => okE c g' h6) fun X' g' => okE elt g' h7).se.of fun l m => by rw [evalE] <;> rfl) (true_plain rfl)
    · cases h
theorem okL : ∀ (x : List E) {X : Cx} {W : Wd} {wx : WX} {sc : Scope} {fb : PySem.Str → Bool} {es : List Expr}, Good P fre T d X W wx N sc fb → chkL P fre N sc fb es x = true → SA X W wx es (evalL P (callN P d) x) ∧ (es = [] → evalL P (callN P d) x = fun _ m => .ok [] m)
  | [], X, W, wx, sc, fb, es, g, h => by
    unfold chkL at h
    cases es with
    | cons _ _ => cases h
    | nil => exact ⟨sa_nil.of fun l m => by rw [evalL], fun _ => by funext l m; rw [evalL]⟩
  | x :: xs, X, W, wx, sc, fb, es, g, h => by
    unfold chkL at h
    cases es with
    | nil => cases h
    | cons e es =>
      simp only [Bool.and_eq_true] at h
      obtain ⟨⟨h1, h2⟩, h3⟩ := h
      exact ⟨(sa_cons (okE x g h2).ve (okL xs g h3).1 (star_cons (by simpa using h1))).of fun l m => by rw [evalL], fun q => by cases q⟩
theorem okI : ∀ (x : Py.It) {X : Cx} {W : Wd} {wx : WX} {sc : Scope} {fb : PySem.Str → Bool} {tg e : Expr}, Good P fre T d X W wx N sc fb → chkI P fre N sc fb e x = true → SI X W wx tg e (evalI P (callN P d) x)
  | .seq a, X, W, wx, sc, fb, tg, e, g, h => by
    unfold chkI at h
    exact (si_seq g.k (okE a g h).ve).of fun l m => by rw [evalI] <;> rfl
  | .own a, X, W, wx, sc, fb, tg, e, g, h => by
    unfold chkI at h
    exact (si_own g.k g.it (g.room.mono (by omega)) (okE a g h).ve).of fun l m => by rw [evalI] <;> rfl
  | .range1 a, X, W, wx, sc, fb, tg, e, g, h => by
    unfold chkI at h
    split at h
    · rename_i y pos
      simp only [Bool.and_eq_true] at h
      obtain ⟨⟨⟨⟨h1, h2⟩, h3⟩, h4⟩, h5⟩ := h
      have e1 := of_decide_eq_true h1
      subst e1
      have h4' : isStar y = false := by simpa using h4
      exact (si_range1 (g.gl h2) (g.fac.free _ h3) (star_cons h4') (star_cons h4') (okE a g h5).ve).of fun l m => by rw [evalI] <;> rfl
    · cases h
  | .range2 a b, X, W, wx, sc, fb, tg, e, g, h => by
    unfold chkI at h
    split at h
    · rename_i y z pos
      simp only [Bool.and_eq_true] at h
      obtain ⟨⟨⟨⟨⟨⟨h1, h2⟩, h3⟩, h4⟩, h5⟩, h6⟩, h7⟩ := h
      have e1 := of_decide_eq_true h1
      subst e1
      have h4' : isStar y = false := by simpa using h4
      have h5' : isStar z = false := by simpa using h5
      exact (si_range2 (g.gl h2) (g.fac.free _ h3) ((star_cons h4').trans (by rw [star_cons h5']; rfl)) (star_cons h5') (star_cons h4') (star_cons h5') (okE a g h6).ve (okE b g h7).ve).of fun l m => by rw [evalI] <;> rfl
    · cases h
  | .zip a b, X, W, wx, sc, fb, tg, e, g, h => by
    unfold chkI at h
    cases h
end
end
end Py

namespace Py
open PySem PySem.Spec PyProof.Rows L2

def isTupD : Expr → Bool
  | .Tuple _ _ _ => true
  | .List _ _ => true
  | _ => false
/-- no store of names in a changed order: the target is no display, or the value is none -/
def noSwap (tg v : Expr) : Bool := !isTupD tg || !isTupD v
def deadOk : Stmt → Bool := fun _ => true
def swapNm (sc : Scope) (y : PySem.Str) (py : Pos) (e : Expr) : Bool := (match sc.kind with | .function => true | _ => false) && (match sc.names.lookup y with | some .local => true | _ => false) && (match e with
  | .ListComp _ _ scope pos => (py.line == pos.line) && !(scope.names.any fun (n, k) => n == y && (k == .local || k == .cell))
  | _ => false)
def isLComp : E → Bool
  | .comp _ _ _ => true
  | .compIf _ _ _ _ => true
  | _ => false
mutual
def chkS (P : Prog) (fre N : List PySem.Str) (sc : Scope) (fb : PySem.Str → Bool) : Stmt → S → Bool
  | st, .pass => match st with
    | .Pass _ => true
    | .Expr (.Constant (.str _) _ _) _ => true
    | _ => false
  | st, .expr e => match st with
    | .Expr x _ => !isCompr x && chkE P fre N sc fb x e
    | _ => false
  | st, .set i e => match st with
    | .Assign [.Name x py] v _ => decide (N[i]? = some x) && isLoc sc fb x && chkE P fre N sc fb v e && (!isCompr v || swapNm sc x py v && isLComp e)
    | _ => false
  | st, .asg t e => match st with
    | .Assign [tg] v _ => isTupD tg && noSwap tg v && !isCompr v && chkT N sc fb tg t && chkE P fre N sc fb v e
    | _ => false
  | st, .aug i o e => match st with
    | .AugAssign (.Name x _) op v _ => decide (op = opOf o) && decide (N[i]? = some x) && isLoc sc fb x && chkE P fre N sc fb v e
    | _ => false
  | st, .setAttr o f e => match st with
    | .Assign [.Attribute x g _] v _ => decide (g = f) && chkE P fre N sc fb x o && chkE P fre N sc fb v e
    | _ => false
  | st, .setIdx o i e => match st with
    | .Assign [.Subscript x y _] v _ => !isSlice y && chkE P fre N sc fb x o && chkE P fre N sc fb y i && chkE P fre N sc fb v e
    | _ => false
  | _, .del _ _ => false
  | st, .ret none => match st with
    | .Return none _ => true
    | _ => false
  | st, .ret (some e) => match st with
    | .Return (some x) _ => chkE P fre N sc fb x e
    | _ => false
  | st, .ifs c a b => match st with
    | .If x as bs _ => chkE P fre N sc fb x c && chkB P fre N sc fb as a && chkB P fre N sc fb bs b
    | _ => false
  | st, .whl c b => match st with
    | .While x bs [] _ => chkE P fre N sc fb x c && chkB P fre N sc fb bs b
    | _ => false
  | st, .fr t it b => match st with
    | .For tg iter bs [] _ => !isSetD iter && chkT N sc fb tg t && chkI P fre N sc fb iter it && chkB P fre N sc fb bs b
    | _ => false
  | st, .brk => match st with
    | .Break _ => true
    | _ => false
  | st, .cnt => match st with
    | .Continue _ => true
    | _ => false
  | st, .dead => deadOk st
def chkB (P : Prog) (fre N : List PySem.Str) (sc : Scope) (fb : PySem.Str → Bool) : List Stmt → List S → Bool
  | xs, [] => xs.isEmpty
  | xs, s :: ss => match xs with
    | x :: xs' => chkS P fre N sc fb x s && chkB P fre N sc fb xs' ss
    | [] => false
end
end Py

namespace Py
open PySem PySem.Spec PyProof.Rows L2

section
variable {P : Prog} {fre : List PySem.Str} {T : Tbl} {d : Nat} {N : List PySem.Str}
theorem okC {x : E} {X : Cx} {W : Wd} {wx : WX} {sc : Scope} {fb : PySem.Str → Bool} {e : Expr} (hl : isLComp x = true) (g : Good P fre T d X W wx N sc fb) (h : chkE P fre N sc fb e x = true) : CompS X W wx e (evalE P (callN P d) x) := by
  cases x with
  | comp elt t it =>
    unfold chkE at h
    split at h
    · simp only [Bool.and_eq_true] at h
      obtain ⟨⟨⟨⟨⟨h1, h2⟩, h3⟩, h4⟩, h5⟩, h6⟩ := h
      rw [of_decide_eq_true h1]
      exact (compS_of g (by simpa using h2) h3 (okI it g h4) h5 fun X' g' => okE elt g' h6).of fun l m => by rw [evalE] <;> rfl
    · cases h
  | compIf elt t it c =>
    unfold chkE at h
    split at h
    · simp only [Bool.and_eq_true] at h
      obtain ⟨⟨⟨⟨⟨⟨h1, h2⟩, h3⟩, h4⟩, h5⟩, h6⟩, h7⟩ := h
      rw [of_decide_eq_true h1]
      exact (compSIf_of g (by simpa using h2) h3 (okI it g h4) h5 (fun X' g' => okE c g' h6) fun X' g' => okE elt g' h7).of fun l m => by rw [evalE] <;> rfl
    · cases h
  | _ => cases hl
end
section
variable {X : Cx} {W : Wd} {wx : WX} {st : Stmt} {sts : List Stmt} {e : Expr} {f : Py.Loc → Mem → Res Val} {g g' : Py.Loc → Mem → Flow} {pos pos' : Pos}
theorem SS.of (h : SS X W wx st g) (q : ∀ l m, g' l m = g l m) : SS X W wx st g' := by
  have e : g' = g := by funext l m; exact q l m
  rw [e]; exact h
theorem SSs.of (h : SSs X W wx sts g) (q : ∀ l m, g' l m = g l m) : SSs X W wx sts g' := by
  have e : g' = g := by funext l m; exact q l m
  rw [e]; exact h
theorem ss_setC {i : Nat} {x : PySem.Str} (hi : X.N[i]? = some x) (hx : X.env.scope.names.lookup x = some .local) (h : CompS X W wx e f) (hs : swapsWith e (some (.Name x pos')) pos.line X.env = pure true) :
    SS X W wx (.Assign [.Name x pos'] e pos) (fun l m => bindF l (f l m) fun v m1 => .nx (l.set i (some v)) m1) := by
  obtain ⟨t, p, ps, q⟩ := h
  refine ⟨_, ps hi hx hs, fun σ H ρ l m D ss s po => ?_⟩
  exact q σ H ρ l m _ ss s ((PostF.bind ss po).mono fun u H1 ⟨x, m1, ρ1, A, p1⟩ => p1 ρ1 H1 _ Ext.refl A.sim (A.ss.set A.rep i))
theorem ss_doc {s : PySem.Str} {j : Nat} {p1 p2 : Pos} : SS X W wx (.Expr (.Constant (.str s) j p1) p2) (fun l m => .nx l m) := ⟨_, ps_doc, fun σ H ρ l m D ss s p => p ρ H σ Ext.refl s ss⟩
end
section
variable {P : Prog} {fre : List PySem.Str} {T : Tbl} {d : Nat} {N : List PySem.Str}
theorem noswap {tg v : Expr} {env : Env} (h1 : isTupD tg = true) (h2 : noSwap tg v = true) : swappedStores [tg] v env = pure none ∧ (assignEach [tg] env).map (·.2) = [assign tg env] := by
  unfold noSwap at h2
  rw [h1] at h2
  constructor
  · cases tg <;> first | (cases h1; done) | (cases v <;> first | rfl | cases h2)
  · cases tg <;> first | rfl | cases h1
theorem swaps_at {env : Env} (e tg : Expr) (n : Nat) (h : ∀ x p, tg ≠ .Name x p) : swapsWith e (some tg) n env = pure false := by
  cases e <;> first
    | rfl
    | (cases tg <;> first | rfl | exact absurd rfl (h _ _))
mutual
theorem okS' : ∀ (x : S) {X : Cx} {W : Wd} {wx : WX} {sc : Scope} {fb : PySem.Str → Bool} {st : Stmt}, Good P fre T d X W wx N sc fb → PassesOwn (model X.prog X.w) X.A X.env X.xe → chkS P fre N sc fb st x = true → SS X W wx st (execS P (callN P d) x)
  | .pass, X, W, wx, sc, fb, st, g, hp, h => by
    unfold chkS at h
    split at h
    · exact ss_pass.of fun l m => by rw [execS]
    · exact ss_doc.of fun l m => by rw [execS]
    · cases h
  | .expr e, X, W, wx, sc, fb, st, g, hp, h => by
    unfold chkS at h
    split at h
    · rw [Bool.and_eq_true] at h
      exact (ss_expr (okE e g h.2).ve (swaps_plain (by simpa using h.1))).of fun l m => by rw [execS] <;> rfl
    · cases h
  | .set i e, X, W, wx, sc, fb, st, g, hp, h => by
    unfold chkS at h
    split at h
    · rename_i x py v pos
      simp only [Bool.and_eq_true, Bool.or_eq_true] at h
      obtain ⟨⟨⟨h1, h2⟩, h3⟩, h4⟩ := h
      have hi : X.N[i]? = some x := by rw [g.nm]; exact of_decide_eq_true h1
      rcases h4 with h4 | ⟨h4, h5⟩
      · exact (ss_set g.nd hi (g.loc h2).1 (okE e g h3).ve (swaps_plain (by simpa using h4)) (hf := (g.loc h2).2)).of fun l m => by rw [execS] <;> rfl
      · unfold swapNm at h4
        simp only [Bool.and_eq_true] at h4
        obtain ⟨⟨h6, h7⟩, h8⟩ := h4
        have hk : X.env.scope.kind = .function := by
          rw [g.sc]
          split at h6
          · assumption
          · cases h6
        have hy : X.env.scope.names.lookup x = some .local := by
          rw [g.sc]
          split at h7
          · assumption
          · cases h7
        split at h8
        · rename_i e' gs scope pos2
          rw [Bool.and_eq_true] at h8
          exact (ss_setC hi hy (okC h5 g h3) (sw_true hk hy h8.1 (by simpa using h8.2))).of fun l m => by rw [execS] <;> rfl
        · cases h8
    · cases h
  | .asg t e, X, W, wx, sc, fb, st, g, hp, h => by
    unfold chkS at h
    split at h
    · simp only [Bool.and_eq_true] at h
      obtain ⟨⟨⟨⟨h1, h2⟩, h3⟩, h4⟩, h5⟩ := h
      obtain ⟨q1, q2⟩ := noswap (env := X.env) h1 h2
      exact (ss_asg (okT g.k g.calm g.nm g.nd (fun x hx => g.loc hx) t _ h4) (okE e g h5).ve (swaps_plain (by simpa using h3)) q1 q2).of fun l m => by rw [execS] <;> rfl
    · cases h
  | .aug i o e, X, W, wx, sc, fb, st, g, hp, h => by
    unfold chkS at h
    split at h
    · simp only [Bool.and_eq_true] at h
      obtain ⟨⟨⟨h1, h2⟩, h3⟩, h4⟩ := h
      have e1 := of_decide_eq_true h1
      subst e1
      exact (ss_aug o g.nd (by rw [g.nm]; exact of_decide_eq_true h2) (g.loc h3).1 (g.loc h3).2 (okE e g h4).ve).of fun l m => by rw [execS] <;> rfl
    · cases h
  | .setAttr o f e, X, W, wx, sc, fb, st, g, hp, h => by
    unfold chkS at h
    split at h
    · simp only [Bool.and_eq_true] at h
      obtain ⟨⟨h1, h3⟩, h4⟩ := h
      have e1 := of_decide_eq_true h1
      subst e1
      rename_i x pp v pos
      exact (ss_setAttr (P := P) g.k (fun c hc => g.fac.noat c _ hc) (okE o g h3).ve (okE e g h4).ve (swaps_at _ _ _ (fun _ _ z => nomatch z))).of fun l m => by rw [execS] <;> rfl
    · cases h
  | .setIdx o i e, X, W, wx, sc, fb, st, g, hp, h => by
    unfold chkS at h
    split at h
    · rename_i x y py v pos
      simp only [Bool.and_eq_true] at h
      obtain ⟨⟨⟨h1, h3⟩, h4⟩, h5⟩ := h
      have h1' : isSlice y = false := by simpa using h1
      have hs : ∀ n, swapsWithSole [.Subscript x y py] v n X.env = pure false := fun n => swaps_at (env := X.env) v (.Subscript x y py) n (fun _ _ z => nomatch z)
      refine (ss_setIdx (okE o g h3).ve (okE i g h4).ve (okE e g h5).ve (fun v => ?_) (hs _) rfl rfl).of fun l m => by rw [execS] <;> rfl
      cases y <;> first | rfl | cases h1'
    · cases h
  | .del o i, X, W, wx, sc, fb, st, g, hp, h => by
    unfold chkS at h; cases h
  | .ret none, X, W, wx, sc, fb, st, g, hp, h => by
    unfold chkS at h
    split at h
    · exact ss_retN.of fun l m => by rw [execS]
    · cases h
  | .ret (some e), X, W, wx, sc, fb, st, g, hp, h => by
    unfold chkS at h
    split at h
    · exact (ss_ret (okE e g h).ve).of fun l m => by rw [execS] <;> rfl
    · cases h
  | .ifs c a b, X, W, wx, sc, fb, st, g, hp, h => by
    unfold chkS at h
    split at h
    · simp only [Bool.and_eq_true] at h
      obtain ⟨⟨h1, h2⟩, h3⟩ := h
      exact (ss_if (okE c g h1).te (okB a g hp h2) (okB b g hp h3)).of fun l m => by rw [execS] <;> rfl
    · cases h
  | .whl c b, X, W, wx, sc, fb, st, g, hp, h => by
    unfold chkS at h
    split at h
    · simp only [Bool.and_eq_true] at h
      exact (ss_while WMAX hp (okE c g h.1).te (okB b g hp h.2)).of fun l m => by rw [execS] <;> rfl
    · cases h
  | .fr t it b, X, W, wx, sc, fb, st, g, hp, h => by
    unfold chkS at h
    split at h
    · simp only [Bool.and_eq_true] at h
      obtain ⟨⟨⟨h1, h2⟩, h3⟩, h4⟩ := h
      exact (ss_for hp g.calm (okI it g h3) (okT g.k g.calm g.nm g.nd (fun x hx => g.loc hx) t _ h2) (okB b g hp h4) (fold_plain (by simpa using h1))).of fun l m => by rw [execS] <;> rfl
    · cases h
  | .brk, X, W, wx, sc, fb, st, g, hp, h => by
    unfold chkS at h
    split at h
    · exact ss_brk.of fun l m => by rw [execS]
    · cases h
  | .cnt, X, W, wx, sc, fb, st, g, hp, h => by
    unfold chkS at h
    split at h
    · exact ss_cnt.of fun l m => by rw [execS]
    · cases h
  | .dead, X, W, wx, sc, fb, st, g, hp, h => ss_dead.of fun l m => by rw [execS]
theorem okB : ∀ (x : List S) {X : Cx} {W : Wd} {wx : WX} {sc : Scope} {fb : PySem.Str → Bool} {sts : List Stmt}, Good P fre T d X W wx N sc fb → PassesOwn (model X.prog X.w) X.A X.env X.xe → chkB P fre N sc fb sts x = true → SSs X W wx sts (execB P (callN P d) x)
  | [], X, W, wx, sc, fb, sts, g, hp, h => by
    unfold chkB at h
    cases sts with
    | cons _ _ => cases h
    | nil => exact sss_nil.of fun l m => by rw [execB]
  | x :: xs, X, W, wx, sc, fb, sts, g, hp, h => by
    unfold chkB at h
    cases sts with
    | nil => cases h
    | cons st sts =>
      simp only [Bool.and_eq_true] at h
      exact (sss_cons (okS' x g hp h.1) (okB xs g hp h.2)).of fun l m => by rw [execB]
end
end
end Py

namespace Py
open PySem PySem.Spec PyProof.Rows L2

/-! ### the head's facts, and where the defs stand -/
inductive At where
  | fn (x : PySem.Str)
  | mth (c m : PySem.Str)
  | prp (c m : PySem.Str)
  | clm (c m : PySem.Str)
  deriving DecidableEq
def recA (K : PySem.W.Frag) (p : Addr) (T : String) : Addr := match PySem.W.recIn K p T with
  | some (.ref g :: _) => g
  | _ => 0
def At.ad (K : PySem.W.Frag) : At → Addr
  | .fn x => He.ga K x
  | .mth c m => He.ma K (He.ga K c) m
  | .prp c m => recA K (He.ma K (He.ga K c) m) "property"
  | .clm c m => recA K (He.ma K (He.ga K c) m) "classmethod"
inductive Fy where
  | fa (f : He.Fa)
  | prop (c f : PySem.Str)
def eqV (a b : Option (Option Value)) : Bool := decide (a = b)
def Fy.ok (K : PySem.W.Frag) : Fy → Bool
  | .fa f => f.ok K
  | .prop c f => eqV (PySem.W.findIn K (.ref (He.ga K c)) f) (some (some (.ref (He.ma K (He.ga K c) f)))) && (eqV (PySem.W.specialIn K (.ref (He.ma K (He.ga K c) f)) "__get__") (some (some (.builtin "property.__get__"))) &&
      (decide (PySem.W.takesIn K (.ref (He.ma K (He.ga K c) f)) = some true) && (match PySem.W.recIn K (He.ma K (He.ga K c) f) "property" with
        | some (.ref _ :: _) => true
        | _ => false)))
theorem propOf_ok {K : PySem.W.Frag} {c f : PySem.Str} (h : (Fy.prop c f).ok K = true) : PropOf K (He.ga K c) f (He.ma K (He.ga K c) f) (At.ad K (.prp c f)) := by
  unfold Fy.ok at h
  simp only [Bool.and_eq_true] at h
  obtain ⟨h1, h2, h3, h4⟩ := h
  refine ⟨of_decide_eq_true h1, of_decide_eq_true h2, of_decide_eq_true h3, ?_⟩
  split at h4
  · rename_i g rest e
    refine ⟨rest, ?_⟩
    have : At.ad K (.prp c f) = g := by
      show recA K _ "property" = g
      unfold recA
      rw [e]
    rw [this]; exact e
  · cases h4
structure DefY where
  at_ : At
  name : PySem.Str
  qual : PySem.Str
  params : Arguments
  body : List Stmt
  scope : Scope
def fnY (K : PySem.W.Frag) (a : Addr) : He.FnW := match K.lookup a with
  | some ⟨_, _, .func fd, _⟩ => some (fd.name, fd.qualname, fd.params, fd.body, fd.scope, fd.globals, fd.closure, fd.builtins)
  | _ => none
def DefY.val (d : DefY) : He.FnW := some (d.name, d.qual, d.params, .stmts d.body, d.scope, mainGlobals, [], builtinsNs)
def DefY.ok (K : PySem.W.Frag) (d : DefY) : Bool := PySem.W.keepIn K (.ref (d.at_.ad K)) && (match K.lookup (d.at_.ad K) with
  | some ⟨_, _, .func fd, _⟩ => PySem.W.codeIn K fd.code d.qual && (He.dflB K fd.defaults [] && He.kwdB K fd.kwdefaults [])
  | _ => false)
theorem DefY.funD {K : PySem.W.Frag} {d : DefY} (e : fnY K (d.at_.ad K) = d.val) (c : d.ok K = true) : ∃ fd, FunD K d.name d.qual d.params d.body d.scope [] [] (d.at_.ad K) fd := by
  obtain ⟨kp, c2⟩ := He.ba c
  unfold fnY at e
  cases q : K.lookup (d.at_.ad K) with
  | none => rw [q] at c2; cases c2
  | some o =>
    obtain ⟨oc, od, dt, osl⟩ := o
    rw [q] at c2 e
    cases dt with
    | func fd =>
      obtain ⟨n1, n2, n3, n4, n5, n6, n7, n8, n9, n10, n11, n12, n13, n14, n15⟩ := fd
      simp only [DefY.val, Option.some.injEq, Prod.mk.injEq] at e
      obtain ⟨h1, h2, h3, h4, h5, h6, h7, h8⟩ := e
      subst h1 h2 h3 h4 h5 h6 h7 h8
      obtain ⟨k1, k2⟩ := He.ba c2
      obtain ⟨k3, k4⟩ := He.ba k2
      exact ⟨_, ⟨oc, od, n8, n9, n10, n11, n12, n13, n14, osl, rfl, q, k1, He.dflB_ok k3, He.kwdB_ok k4⟩, kp⟩
    | _ => cases c2
def obsY (fa : List Fy) (fn : List DefY) (K : PySem.W.Frag) : He.AlD := ((fa.all fun f => f.ok K) && fn.all fun d => d.ok K, fn.map fun d => fnY K (d.at_.ad K))
def valY (fn : List DefY) : He.AlD := (true, fn.map DefY.val)
def SaysY (fa : List Fy) (fn : List DefY) (K : PySem.W.Frag) : Prop := obsY fa fn K = valY fn
def obsYG (n : Nat) (fa : List Fy) (fn : List DefY) (g : Addr → Option Obj) : He.AlD := obsY fa fn (He.frG g (He.asD g n))
def hookY (n : Nat) (fa : List Fy) (fn : List DefY) : PySem.W.Hook where
  α := He.AlD
  obs := fun s => obsYG n fa fn s.heap.get?
  val := fun _ => valY fn
  says := fun _ h => ∃ K : PySem.W.Frag, K.In h ∧ SaysY fa fn K
  of := fun _ _ e => ⟨_, He.frG_in, e⟩
  keeps := fun _ _ _ ⟨K, hK, c⟩ k => ⟨K, PySem.W.Frag.In.keeps hK k, c⟩
theorem obsYG_eq {n : Nat} {fa : List Fy} {fn : List DefY} {g : Addr → Option Obj} {s : Shared} (h : ∀ a, g a = s.heap.get? a) : obsYG n fa fn g = (hookY n fa fn).obs s := by
  have e : g = s.heap.get? := funext h
  rw [e]; rfl
theorem SaysY.fact {fa : List Fy} {fn : List DefY} {K : PySem.W.Frag} (c : SaysY fa fn K) {f : Fy} (h : f ∈ fa) : f.ok K = true := by
  have c1 := (He.ba (show ((fa.all fun f => f.ok K) && fn.all fun d => d.ok K) = true from congrArg (fun z : He.AlD => z.1) c)).1
  exact List.all_eq_true.mp c1 f h
theorem SaysY.def_ {fa : List Fy} {fn : List DefY} {K : PySem.W.Frag} (c : SaysY fa fn K) {d : DefY} (h : d ∈ fn) : ∃ fd, FunD K d.name d.qual d.params d.body d.scope [] [] (d.at_.ad K) fd := by
  have c2 := (He.ba (show ((fa.all fun f => f.ok K) && fn.all fun d => d.ok K) = true from congrArg (fun z : He.AlD => z.1) c)).2
  have e : fn.map (fun d => fnY K (d.at_.ad K)) = fn.map DefY.val := congrArg (fun z : He.AlD => z.2) c
  have e2 : fnY K (d.at_.ad K) = d.val := List.map_inj_left.mp e d h
  exact DefY.funD e2 (List.all_eq_true.mp c2 d h)
end Py

namespace Py
open PySem PySem.Spec PyProof.Rows L2

/-! ### a def keeps its promise -/
theorem start_sim {K : PySem.W.Frag} {ρ : Nat → Addr} {n : Nat} {H : Hp} {xs : List Val} {vs : List V} (N : List PySem.Str) (r : RepL K ρ n H xs vs) : SimS K ρ n H (Py.start N.length xs) (L2.start N vs) := by
  unfold Py.start L2.start
  refine ⟨by simp [r.length], fun i v h => ?_⟩
  by_cases hi : i < xs.length
  · rw [List.getElem?_append_left (by simpa using hi), List.getElem?_map] at h
    cases e : xs[i]? with
    | none => rw [e] at h; cases h
    | some y =>
      rw [e] at h
      cases h
      obtain ⟨u, h1, h2⟩ := r.get e
      refine ⟨u, ?_, h2⟩
      rw [List.getElem?_append_left (by rw [List.length_map, ← r.length]; exact hi), List.getElem?_map, h1]
      rfl
  · rw [List.getElem?_append_right (by simpa using hi), List.getElem?_replicate] at h
    split at h <;> cases h
theorem ret_post {W : Wd} {E : XK} {ρ : Nat → Addr} {n : Nat} {H : Hp} {r : Flow} {Q : VK} (p : Post W (fun cls d _ H => E cls d H) [] ρ n H (retOf r) Q) : PostF W (fun cls d _ H => E cls d H) ρ n H r { nx := fun _ H' => Q .non H', rt := Q } := by
  cases r with
  | nx l m => exact fun ρ' H' σ' a b c => p ρ' H' .non a b .none
  | ret v m => exact p
  | exc l c fs m => exact fun ρ' H' σ' cls d a b _ e => p ρ' H' cls d a b e
  | brk l m => exact p.elim
  | cnt l m => exact p.elim
  | err => exact p.elim
section
variable {P : Prog} {fre : List PySem.Str} {T : Tbl} {d : Nat} {N ps : List PySem.Str} {W : Wd} {prog : Program} {w : World} {mg : PySem.Str → Option Value} {base : Heap} {x qual key : PySem.Str} {params : Arguments} {body : List Stmt} {scope : Scope} {f : Addr} {fd : FuncData} {fn : Fn}
theorem def_ok (F : FunD W.K x qual params body scope [] [] f fd) (S : FnScope N ps scope) (hp : fn.np = ps.length) (hs : fn.ns = N.length) (hk : P.ent key = some (.fn fn) ∨ P.ent key = some (.mth fn))
    (hc : chkB P fre N scope (fun _ => true) body fn.body = true) (fac : Facts P fre W mg T) (lv : ∀ j, j ≤ d → Lv P W T prog w mg base j) (it : ∀ c f, P.iter c = some f → IterP prog w W.K mg base W c f) :
    FnOk prog w W.K mg base (L2.CX prog w) (5 * (d + 1) + 1) f fd ps (spC W (callN P (d + 1)) key) := by
  have run : ∀ vs m, callN P (d + 1) key vs m = if vs.length = fn.np then gc m (retOf (execB P (callN P d) fn.body (Py.start fn.ns vs) m)) else .err := fun vs m => by
    rw [callN]
    rcases hk with e | e <;> rw [e]
  refine F.ok S (fun vs H Q E h => ?_) fun cdv A outer s H vs Q E hr h => ?_
  · obtain ⟨ρ, m, xs, sm, r, p⟩ := h
    rw [run] at p
    split at p
    · rename_i e
      rw [← r.length, e, hp]
    · exact p.elim
  · obtain ⟨ρ, m, xs, sm, r, p⟩ := h
    rw [run] at p
    split at p
    · have p1 := ret_post (gc_ok sm p)
      have g : Good P fre T d (cxOf (L2.CX prog w) prog w W.K mg base N qual scope f cdv A outer s H E) W (fun cls d _ H => E cls d H) N scope (fun _ => true) :=
        ⟨rfl, rfl, hr, rfl, S.nd, rfl, takes_of rfl rfl rfl rfl, fun _ _ => rfl, fac, lv, it⟩
      obtain ⟨t, pt, q⟩ := (okB fn.body g (passes_of rfl) hc).ex
      refine ⟨t, pt, q _ H ρ _ m _ (start_sim N r) sm ?_⟩
      rw [← hs]
      exact p1
    · exact p.elim
theorem lv_zero : Lv P W T prog w mg base 0 := fun x f _ =>
  have no : ∀ vs H Q E, ¬ spC W (callN P 0) x vs H Q E := fun vs H Q E ⟨ρ, m, xs, _, _, p⟩ => p
  ⟨fun vs H Q E h => absurd h (no vs H Q E), fun A outer s H args us vs Q E _ _ _ _ h => absurd h (no vs H Q E)⟩
end

/-! ### the table of a program -/
structure Df where
  at_ : At
  key : PySem.Str
  name : PySem.Str
  qual : PySem.Str
  st : Stmt
  N : List PySem.Str
  ps : List PySem.Str
  fn : Fn
def At.isM : At → Bool
  | .fn _ => false
  | _ => true
def Df.isM (d : Df) : Bool := d.at_.isM
def Df.dd (d : Df) : DefY := ⟨d.at_, d.name, d.qual, defArgs d.st, defBody d.st, defScope d.st⟩
/-- what Lean's kernel sees of a def -/
structure DfOk (d : Df) : Prop where
  bnd : ∀ (K : PySem.W.Frag) (f : Addr) (fd : FuncData), FunD K d.name d.qual (defArgs d.st) (defBody d.st) (defScope d.st) [] [] f fd → Binds K fd d.ps []
  scp : FnScope d.N d.ps (defScope d.st)
  np : d.fn.np = d.ps.length
  ns : d.fn.ns = d.N.length
/-- a module's name that is a number or a text -/
inductive Gv where
  | int (i : Int)
  | str (s : List Nat)
def Gv.val : Gv → Val
  | .int i => .int i
  | .str s => .str s
structure Tab where
  defs : List Df
  /-- a class, its fields -/
  clss : List (PySem.Str × List PySem.Str)
  /-- a class, a method's name, its key -/
  mths : List ((PySem.Str × PySem.Str) × PySem.Str)
  /-- properties -/
  prs : List ((PySem.Str × PySem.Str) × PySem.Str)
  /-- a class, the field that its __iter__ walks -/
  its : List (PySem.Str × PySem.Str)
  glo : List (PySem.Str × Gv)
  fre : List PySem.Str
def initKey (c : PySem.Str) : PySem.Str := c ++ (".__init__" : PySem.Str)
def findD (ds : List Df) (x : PySem.Str) : Option Df := match ds with
  | [] => none
  | d :: r => if d.key = x then some d else findD r x
def Tab.prog (t : Tab) : Prog where
  ent x := match findD t.defs x with
    | some d => if d.isM then some (.mth d.fn) else some (.fn d.fn)
    | none => match t.clss.lookup x with
      | some _ => some (.cls (initKey x))
      | none => none
  meth c m := t.mths.lookup (c, m)
  prop c m := t.prs.lookup (c, m)
  iter c := t.its.lookup c
  flds c := match t.clss.lookup c with
    | some fs => fs
    | none => []
  glob x := (t.glo.lookup x).map Gv.val
def Tab.dd (t : Tab) : List DefY := t.defs.map Df.dd
def Tab.fh (t : Tab) : List He.Fa :=
  ((t.defs.filter fun d => !d.isM).map fun d => He.Fa.glo d.key) ++ (t.clss.flatMap fun c => [He.Fa.glo c.1, He.Fa.cls c.1, He.Fa.mkr c.1] ++ c.2.map fun f => He.Fa.noat c.1 f) ++
    (t.mths.map fun q => He.Fa.meth q.1.1 q.1.2) ++ (t.glo.map fun g => match g.2 with
      | .int i => He.Fa.int g.1 i
      | .str s => He.Fa.str g.1 (sv s)) ++ t.fre.map fun x => He.Fa.free x
def Tab.fa (t : Tab) : List Fy := t.fh.map Fy.fa ++ t.prs.map fun q => Fy.prop q.1.1 q.1.2
def Tab.chk (t : Tab) : Bool :=
  (t.defs.all fun d => chkB t.prog t.fre d.N (defScope d.st) (fun _ => true) (defBody d.st) d.fn.body) &&
  (t.defs.all fun d => d.isM || decide (d.at_ = .fn d.key)) &&
  (t.clss.all fun c => (match findD t.defs (initKey c.1) with
    | some d => decide (d.at_ = .mth c.1 "__init__")
    | none => false)) &&
  (t.mths.all fun q => (match findD t.defs q.2 with
    | some d => decide (d.at_ = .mth q.1.1 q.1.2)
    | none => false)) &&
  (t.prs.all fun q => (match findD t.defs q.2 with
    | some d => decide (d.at_ = .prp q.1.1 q.1.2)
    | none => false)) &&
  (t.its.all fun c => (match t.mths.lookup (c.1, ("__iter__" : PySem.Str)) with
    | some q => (match findD t.defs q with
      | some d => decide (d.N[0]? = some ("self" : PySem.Str)) && decide (d.ps = [("self" : PySem.Str)]) && chkIter t.fre (defScope d.st) (defBody d.st) c.2
      | none => false)
    | none => false)) &&
  (t.glo.all fun g => (match g.2 with
    | .int _ => true
    | .str s => okS s))
theorem findD_mem {ds : List Df} {x : PySem.Str} {d : Df} (h : findD ds x = some d) : d ∈ ds ∧ d.key = x := by
  induction ds with
  | nil => cases h
  | cons e r ih =>
    unfold findD at h
    split at h
    · cases h; exact ⟨List.mem_cons_self, by assumption⟩
    · exact ⟨List.mem_cons_of_mem _ (ih h).1, (ih h).2⟩
end Py

namespace Py
open PySem PySem.Spec PyProof.Rows L2

theorem says_fact {t : Tab} {K : PySem.W.Frag} (c : SaysY t.fa t.dd K) {f : He.Fa} (h : f ∈ t.fh) : f.ok K = true := by
  have : Fy.fa f ∈ t.fa := by
    unfold Tab.fa
    exact List.mem_append_left _ (List.mem_map.mpr ⟨f, h, rfl⟩)
  exact c.fact this
theorem says_def {t : Tab} {fa : List Fy} {K : PySem.W.Frag} (c : SaysY fa t.dd K) {d : Df} (h : d ∈ t.defs) : ∃ fd, FunD K d.name d.qual (defArgs d.st) (defBody d.st) (defScope d.st) [] [] (d.at_.ad K) fd := by
  have e : d.dd ∈ t.dd := by
    unfold Tab.dd
    exact List.mem_map.mpr ⟨d, h, rfl⟩
  exact c.def_ e
theorem lookup_mem {α β : Type} [BEq α] [LawfulBEq α] {l : List (α × β)} {a : α} {b : β} (h : l.lookup a = some b) : (a, b) ∈ l := by
  induction l with
  | nil => cases h
  | cons p r ih =>
    obtain ⟨x, y⟩ := p
    rw [List.lookup_cons] at h
    split at h
    · rename_i e
      have e' : a = x := by simpa using e
      cases h
      rw [e']; exact List.mem_cons_self
    · exact List.mem_cons_of_mem _ (ih h)
def wd (K : PySem.W.Frag) : Wd := ⟨K, fun c => He.ga K c⟩
section
variable {t : Tab} {K : PySem.W.Frag} {h : Heap} {mg : PySem.Str → Option Value}
theorem facts_of (hc : t.chk = true) (ok : ∀ d ∈ t.defs, DfOk d) (ne : t.defs ≠ []) (X : K.In h) (G : h.Ns mainGlobals mg) (c : SaysY t.fa t.dd K) :
    ∃ T : Tbl, Facts t.prog t.fre (wd K) mg T ∧ ∀ x d, findD t.defs x = some d → FunD K d.name d.qual (defArgs d.st) (defBody d.st) (defScope d.st) [] [] (T.ad x) (T.fd x) ∧ T.ps x = d.ps := by
  obtain ⟨d0, h0⟩ : ∃ d, d ∈ t.defs := by
    cases e : t.defs with
    | nil => exact absurd e ne
    | cons d r => exact ⟨d, List.mem_cons_self⟩
  obtain ⟨fd0, _⟩ := says_def c h0
  have hx : ∀ x, ∃ fd, ∀ d, findD t.defs x = some d → FunD K d.name d.qual (defArgs d.st) (defBody d.st) (defScope d.st) [] [] (d.at_.ad K) fd := fun x => by
    cases e : findD t.defs x with
    | none => exact ⟨fd0, fun d q => by cases q⟩
    | some d =>
      obtain ⟨fd, F⟩ := says_def c (findD_mem e).1
      exact ⟨fd, fun d' q => by cases q; exact F⟩
  obtain ⟨fdf, hfd⟩ := Classical.axiomOfChoice hx
  unfold Tab.chk at hc
  simp only [Bool.and_eq_true, List.all_eq_true] at hc
  obtain ⟨⟨⟨⟨⟨⟨c1, c2⟩, c3⟩, c4⟩, cp⟩, ci⟩, c5⟩ := hc
  refine ⟨⟨fun x => match findD t.defs x with
    | some d => d.at_.ad K
    | none => 0, fdf, fun x => match findD t.defs x with
    | some d => d.ps
    | none => []⟩, ⟨?_, ?_, ?_, ?_, ?_, ?_, ?_, ?_⟩, ?_⟩
  · intro x f e
    unfold Tab.prog at e
    simp only at e
    cases q : findD t.defs x with
    | none => rw [q] at e; simp only at e; split at e <;> cases e
    | some d =>
      rw [q] at e
      simp only at e
      split at e
      · cases e
      · rename_i hm
        obtain ⟨hd, hk⟩ := findD_mem q
        have a1 : d.at_ = .fn d.key := by
          have := c2 d hd
          rw [Bool.or_eq_true] at this
          rcases this with z | z
          · exact absurd z hm
          · exact of_decide_eq_true z
        have F := hfd x d q
        have g : He.Fa.glo d.key ∈ t.fh := by
          unfold Tab.fh
          simp only [List.mem_append, List.mem_map, List.mem_filter]
          exact .inl (.inl (.inl (.inl ⟨d, ⟨hd, by simpa using hm⟩, rfl⟩)))
        refine ⟨?_, ?_, ?_⟩
        · have := He.glo_ok X G (says_fact c g)
          simp only [q]
          rw [← hk, this, a1]; rfl
        · simp only [q]; exact F.kp
        · simp only [q]; exact (ok d hd).bnd K _ _ F
  · intro x i e
    unfold Tab.prog at e
    simp only at e
    cases q : findD t.defs x with
    | some d => rw [q] at e; simp only at e; split at e <;> cases e
    | none =>
      rw [q] at e
      simp only at e
      split at e
      · rename_i fs el
        cases e
        have hm := lookup_mem el
        have g : ∀ y ∈ [He.Fa.glo x, He.Fa.cls x, He.Fa.mkr x], y ∈ t.fh := fun y hy => by
          unfold Tab.fh
          simp only [List.mem_append, List.mem_map, List.mem_filter, List.mem_flatMap]
          exact .inl (.inl (.inl (.inr ⟨_, hm, .inl hy⟩)))
        have k3 := c3 _ hm
        simp only at k3
        split at k3
        · rename_i d ed
          have a1 := of_decide_eq_true k3
          refine ⟨He.glo_ok X G (says_fact c (g _ (by simp))), He.cls_ok (says_fact c (g _ (by simp))), ?_, ?_⟩
          · simp only [ed]
            rw [a1]
            exact He.mkr_ok (says_fact c (g _ (by simp)))
          · refine ⟨d.fn, ?_⟩
            unfold Tab.prog
            simp only [ed]
            have : d.isM = true := by unfold Df.isM; rw [a1]; rfl
            rw [if_pos this]
        · cases k3
      · cases e
  · intro x f e
    unfold Tab.prog at e
    simp only at e
    cases q : findD t.defs x with
    | none => rw [q] at e; simp only at e; split at e <;> cases e
    | some d => simp only [q]; exact (ok d (findD_mem q).1).bnd K _ _ (hfd x d q)
  · intro x m q e
    have hm : ((x, m), q) ∈ t.mths := lookup_mem e
    have k4 := c4 _ hm
    simp only at k4
    split at k4
    · rename_i d ed
      have a1 := of_decide_eq_true k4
      have g : He.Fa.meth x m ∈ t.fh := by
        unfold Tab.fh
        simp only [List.mem_append, List.mem_map, List.mem_filter, List.mem_flatMap]
        exact .inl (.inl (.inr ⟨_, hm, rfl⟩))
      refine ⟨?_, d.fn, ?_⟩
      · simp only [ed]
        rw [a1]
        exact He.meth_ok (says_fact c g)
      · unfold Tab.prog
        simp only [ed]
        have : d.isM = true := by unfold Df.isM; rw [a1]; rfl
        rw [if_pos this]
    · cases k4
  · intro x m q e
    have hm : ((x, m), q) ∈ t.prs := lookup_mem e
    have k4 := cp _ hm
    simp only at k4
    split at k4
    · rename_i d ed
      have a1 := of_decide_eq_true k4
      have g : Fy.prop x m ∈ t.fa := by
        unfold Tab.fa
        exact List.mem_append_right _ (List.mem_map.mpr ⟨_, hm, rfl⟩)
      refine ⟨⟨He.ma K (He.ga K x) m, ?_⟩, d.fn, ?_⟩
      · simp only [ed]
        rw [a1]
        exact propOf_ok (c.fact g)
      · unfold Tab.prog
        simp only [ed]
        have : d.isM = true := by unfold Df.isM; rw [a1]; rfl
        rw [if_pos this]
    · cases k4
  · intro x f e
    unfold Tab.prog at e
    simp only at e
    split at e
    · rename_i fs el
      have hm := lookup_mem el
      have hf : f ∈ fs := by simpa using e
      have g : He.Fa.noat x f ∈ t.fh := by
        unfold Tab.fh
        simp only [List.mem_append, List.mem_map, List.mem_filter, List.mem_flatMap]
        exact .inl (.inl (.inl (.inr ⟨_, hm, .inr ⟨f, hf, rfl⟩⟩)))
      exact He.noat_ok (says_fact c g)
    · simp at e
  · intro x e
    have hx : x ∈ t.fre := by simpa using e
    have g : He.Fa.free x ∈ t.fh := by
      unfold Tab.fh
      simp only [List.mem_append, List.mem_map, List.mem_filter, List.mem_flatMap]
      exact .inr ⟨x, hx, rfl⟩
    exact He.free_ok X G (says_fact c g)
  · intro x v e
    unfold Tab.prog at e
    simp only at e
    obtain ⟨gv, e1, e2⟩ := Option.map_eq_some_iff.mp e
    have hm := lookup_mem e1
    cases gv with
    | int i =>
      have g : He.Fa.int x i ∈ t.fh := by
        unfold Tab.fh
        simp only [List.mem_append, List.mem_map, List.mem_filter, List.mem_flatMap]
        exact .inl (.inr ⟨_, hm, rfl⟩)
      obtain ⟨tk, q⟩ := He.int_ok X G (says_fact c g)
      refine ⟨.int i, _, q, ⟨tk, rfl⟩, fun ρ n H => ?_⟩
      rw [← e2]; exact .int i
    | str s =>
      have g : He.Fa.str x (sv s) ∈ t.fh := by
        unfold Tab.fh
        simp only [List.mem_append, List.mem_map, List.mem_filter, List.mem_flatMap]
        exact .inl (.inr ⟨_, hm, rfl⟩)
      obtain ⟨tk, q⟩ := He.str_ok X G (says_fact c g)
      refine ⟨.str (sv s), _, q, ⟨tk, rfl⟩, fun ρ n H => ?_⟩
      rw [← e2]; exact .str s (c5 _ hm)
  · intro x d q
    exact ⟨by simp only [q]; exact hfd x d q, by simp only [q]⟩
/-- .. an __iter__ too -/
theorem its_of {T : Tbl} {prog : Program} {w : World} {base : Heap} (hc : t.chk = true) (ok : ∀ d ∈ t.defs, DfOk d) (fac : Facts t.prog t.fre (wd K) mg T)
    (hF : ∀ x d, findD t.defs x = some d → FunD K d.name d.qual (defArgs d.st) (defBody d.st) (defScope d.st) [] [] (T.ad x) (T.fd x) ∧ T.ps x = d.ps) : ∀ c f, t.prog.iter c = some f → IterP prog w K mg base (wd K) c f := by
  intro c f h
  have hm : (c, f) ∈ t.its := lookup_mem h
  unfold Tab.chk at hc
  simp only [Bool.and_eq_true, List.all_eq_true] at hc
  have k := hc.1.2 _ hm
  simp only at k
  split at k
  · rename_i q eq
    split at k
    · rename_i d ed
      simp only [Bool.and_eq_true] at k
      obtain ⟨⟨k1, k2⟩, k3⟩ := k
      have k1 := of_decide_eq_true k1
      have k2 := of_decide_eq_true k2
      obtain ⟨F, e2⟩ := hF q d ed
      obtain ⟨M, fn, e3⟩ := fac.meth c _ q eq
      have O := ok d (findD_mem ed).1
      have S := O.scp
      have B := fac.mth q fn e3
      rw [e2, k2] at B
      rw [k2] at S
      exact ⟨_, _, M.at_, M.fn, B, fnIt_ok F S k1 k3 fac.free⟩
    · cases k
  · cases k
/-- every def keeps its promise, however deep the calls -/
theorem lv_all {T : Tbl} {prog : Program} {w : World} {base : Heap} (hc : t.chk = true) (ok : ∀ d ∈ t.defs, DfOk d) (fac : Facts t.prog t.fre (wd K) mg T)
    (hF : ∀ x d, findD t.defs x = some d → FunD K d.name d.qual (defArgs d.st) (defBody d.st) (defScope d.st) [] [] (T.ad x) (T.fd x) ∧ T.ps x = d.ps)
    (it : ∀ c f, t.prog.iter c = some f → IterP prog w K mg base (wd K) c f) : ∀ n, ∀ j, j ≤ n → Lv t.prog (wd K) T prog w mg base j
  | 0, j, hj => by
    have : j = 0 := by omega
    rw [this]; exact lv_zero
  | n + 1, j, hj => by
    by_cases e : j ≤ n
    · exact lv_all hc ok fac hF it n j e
    · have : j = n + 1 := by omega
      subst this
      intro x f he
      cases q : findD t.defs x with
      | none =>
        unfold Tab.prog at he
        simp only [q] at he
        rcases he with he | he <;> (split at he <;> cases he)
      | some d =>
        have hd := (findD_mem q).1
        obtain ⟨F, e2⟩ := hF x d q
        have O := ok d hd
        rw [e2]
        have hk : t.prog.ent x = some (.fn d.fn) ∨ t.prog.ent x = some (.mth d.fn) := by
          unfold Tab.prog
          simp only [q]
          split
          · exact .inr rfl
          · exact .inl rfl
        have c1 : chkB t.prog t.fre d.N (defScope d.st) (fun _ => true) (defBody d.st) d.fn.body = true := by
          unfold Tab.chk at hc
          simp only [Bool.and_eq_true, List.all_eq_true] at hc
          exact hc.1.1.1.1.1.1 d hd
        exact def_ok (W := wd K) F O.scp O.np O.ns hk c1 fac (lv_all hc ok fac hF it n) it
end
end Py

namespace Py
open PySem PySem.Spec PyProof.Rows L2

theorem fro_of {K : PySem.W.Frag} {H : Hp} {a : Addr} {xs : List V} (hO : Only H) (h : SqL K H a xs) : SqF K H a xs := by
  rcases h with (h | h) | h
  · rcases hO a with e | ⟨o, ys, e⟩
    · rw [e] at h; cases h
    · rw [e] at h; cases h
  · exact .inl h
  · exact .inr ⟨fun H' => .inr h, trivial⟩
theorem end_of {l : PySem.W.OpenLaw} {n D ob : Nat} {q : Program} {loose : List PySem.Str} {XP : (PySem.Str → Option Value) → Heap → Prop} {d : DefRec} {t : Tab} {dl : Df}
    (hn : l.most = some n) (hn2 : n ≤ sizeLine) (hdf : d.params.defaults = []) (hr : Room (5 * D + 1) callerA) (hnm : d.name = ("law" : PySem.Str))
    (hc : t.chk = true) (ok : ∀ d ∈ t.defs, DfOk d) (hl : findD t.defs ("law" : PySem.Str) = some dl) (hm : dl.isM = false) (hps : dl.ps = [("_law_script" : PySem.Str)])
    (hba : ∀ (K : PySem.W.Frag) (f : Addr) (fd : FuncData), FunD K dl.name dl.qual (defArgs dl.st) (defBody dl.st) (defScope dl.st) [] [] f fd → ∀ (s : Shared) (u : Value), BindsTo s fd ⟨[u], []⟩ [(("_law_script" : PySem.Str), u)])
    (hlaw : ∀ ns : List Int, ns.length ≤ n → ∃ m, callN t.prog D ("law" : PySem.Str) [.fro ns] [] = .ok (.bool true) m) :
    PySem.W.WalkO q loose XP (hookY ob t.fa t.dd).says l.row.toRowW d [] (fun f vs => PySem.call f vs) := by
  refine Att.attach_call hn hdf fun w s₀ s₁ mg mb fa o pm cd doc a vs ns G Y ho hd hcd hmg hobj hints hlen hg => ?_
  obtain ⟨K, KX, c⟩ := Y
  rw [hnm] at hmg
  obtain ⟨T, fac, hF⟩ := facts_of hc ok (fun e => by rw [e] at hl; cases hl) KX G.T.g c
  obtain ⟨F, e2⟩ := hF _ _ hl
  have hent : t.prog.ent ("law" : PySem.Str) = some (.fn dl.fn) := by
    unfold Tab.prog
    simp only [hl, hm]
    rfl
  have had : fa = T.ad ("law" : PySem.Str) := by
    have := (fac.fn _ _ hent).1
    rw [hmg] at this
    cases this; rfl
  refine law_call (sp := spC (wd K) (callN t.prog D) ("law" : PySem.Str)) (CX := L2.CX l.prog w) (x := "_law_script") KX G.T.g G.T.b G.T.builtins G.T.nolimit hg hobj hints (Nat.le_trans hlen hn2) hr (fun base h1 h2 => ?_) (hba K _ _ F) (fun H hO hS => ?_) fun H e s' h => ?_
  · have L := lv_all (prog := l.prog) (w := w) (base := base) hc ok fac hF (its_of hc ok fac hF) D D (Nat.le_refl _) _ _ (.inl hent)
    rw [e2, hps] at L
    rw [had]
    exact L
  · obtain ⟨m, em⟩ := hlaw ns hlen
    refine ⟨fun _ => a, [], [.fro ns], ⟨fun i j hi => absurd hi (Nat.not_lt_zero _), fun i o h => by simp at h⟩, .cons (.fro (fro_of hO hS)) .nil, ?_⟩
    rw [em]
    intro ρ' H' u _ _ r
    cases r; rfl
  · obtain ⟨_, _, _, _, _, _, _, _, _, _, _, _, z⟩ := h
    exact z
end Py

/-! Laws of the plain language's runs. -/
namespace Py

/-! ### memory -/
@[simp] theorem mem_new (m : Mem) (xs : List Val) : Mem.list (m ++ [.list xs]) m.length = some xs := by
  unfold Mem.list; simp
@[simp] theorem get_new (m : Mem) (o : Ob) : (m ++ [o])[m.length]? = some o := by simp
@[simp] theorem set_new (m : Mem) (o o' : Ob) : (m ++ [o]).set m.length o' = m ++ [o'] := by
  rw [List.set_append_right _ _ (Nat.le_refl _)]; simp
@[simp] theorem mem_newg (m g : Mem) (xs : List Val) : Mem.list (m ++ .list xs :: g) m.length = some xs := by
  unfold Mem.list; simp
@[simp] theorem get_newg (m g : Mem) (o : Ob) : (m ++ o :: g)[m.length]? = some o := by simp
@[simp] theorem set_newg (m g : Mem) (o o' : Ob) : (m ++ o :: g).set m.length o' = m ++ o' :: g := by
  rw [List.set_append_right _ _ (Nat.le_refl _)]; simp
theorem list_lt {m : Mem} {k : Nat} {xs : List Val} (h : m.list k = some xs) : k < m.length := by
  unfold Mem.list at h
  cases e : m[k]? with
  | none => rw [e] at h; cases h
  | some o => exact (List.getElem?_eq_some_iff.mp e).1
theorem list_app {m g : Mem} {k : Nat} {xs : List Val} (h : m.list k = some xs) : Mem.list (m ++ g) k = some xs := by
  have := list_lt h
  unfold Mem.list at h ⊢
  rw [List.getElem?_append_left this]; exact h
theorem get_app {m g : Mem} {k : Nat} {o : Ob} (h : m[k]? = some o) : (m ++ g)[k]? = some o := by
  rw [List.getElem?_append_left (List.getElem?_eq_some_iff.mp h).1]; exact h

theorem gc_app {m g : Mem} {v : Val} (h : v.under m.length = true) : gc m (.ok v (m ++ g)) = .ok v m := by
  unfold gc
  have e : (m ++ g).take m.length = m := by simp
  simp only [e]
  rw [if_pos ⟨by simp, fun i o q => .inl (by simpa using q)⟩, if_pos h]
@[simp] theorem gc_same {m : Mem} {v : Val} (h : v.under m.length = true) : gc m (.ok v m) = .ok v m := by
  have := gc_app (g := []) h
  rwa [List.append_nil] at this
theorem gc_ref {m g : Mem} {k : Nat} {o : Ob} (hk : m.length ≤ k) (ho : (m ++ g)[k]? = some o) (hu : o.under m.length = true) : gc m (.ok (.ref k) (m ++ g)) = .ok (.ref m.length) (m ++ [o]) := by
  unfold gc
  have e : (m ++ g).take m.length = m := by simp
  simp only [e]
  rw [if_pos ⟨by simp, fun i o q => .inl (by simpa using q)⟩]
  have h : Val.under m.length (.ref k) = false := by unfold Val.under; exact decide_eq_false (Nat.not_lt.mpr hk)
  rw [h, if_neg (by decide)]
  simp only [ho]
  rw [if_pos ⟨hu, hk⟩]
@[simp] theorem under_int (n : Nat) (i : Int) : (Val.int i).under n = true := by unfold Val.under; rfl
@[simp] theorem under_bool (n : Nat) (i : Bool) : (Val.bool i).under n = true := by unfold Val.under; rfl
@[simp] theorem under_none (n : Nat) : (Val.none).under n = true := by unfold Val.under; rfl
@[simp] theorem under_str (n : Nat) (s : List Nat) : (Val.str s).under n = true := by unfold Val.under; rfl
@[simp] theorem under_fro (n : Nat) (s : List Int) : (Val.fro s).under n = true := by unfold Val.under; rfl
@[simp] theorem under_tup (n : Nat) (xs : List Val) : (Val.tup xs).under n = Val.underL n xs := by rw [Val.under]
@[simp] theorem underL_nil (n : Nat) : Val.underL n [] = true := by unfold Val.underL; rfl
@[simp] theorem underL_cons (n : Nat) (x : Val) (xs : List Val) : Val.underL n (x :: xs) = (x.under n && Val.underL n xs) := by rw [Val.underL]
theorem underL_all {n : Nat} : ∀ {xs : List Val}, (∀ x ∈ xs, x.under n = true) → Val.underL n xs = true
  | [], _ => by simp
  | x :: xs, h => by
    rw [underL_cons, h x List.mem_cons_self, underL_all fun y hy => h y (List.mem_cons_of_mem _ hy)]; rfl
@[simp] theorem underL_ints (n : Nat) (xs : List Int) : Val.underL n (xs.map .int) = true :=
  underL_all fun x hx => by obtain ⟨y, _, e⟩ := List.mem_map.mp hx; subst e; simp
@[simp] theorem ob_under (n : Nat) (xs : List Val) : (Ob.list xs).under n = Val.underL n xs := by rw [Ob.under]

/-! ### loops -/
@[simp] theorem still_none (m : Mem) : still none m := by unfold still; trivial
/-- what comes behind a run that goes on, or returns -/
def Flow.P (r : Flow) (J : Loc → Mem → Prop) (R : Val → Mem → Prop) : Prop := match r with
  | .nx l m => J l m
  | .cnt l m => J l m
  | .ret v m => R v m
  | _ => False
theorem Flow.by {r r' : Flow} {J : Loc → Mem → Prop} {R : Val → Mem → Prop} (h : r = r') (k : r'.P J R) : r.P J R := by rw [h]; exact k
theorem Flow.nx_of {l : Loc} {m : Mem} {J : Loc → Mem → Prop} {R : Val → Mem → Prop} (h : J l m) : (Flow.nx l m).P J R := h
/-- a loop that runs to its end, or returns -/
theorem for_run {chk : Option (Nat × List Val)} {t : Tg} {b : Loc → Mem → Flow} {xs : List Val} (I : Nat → Loc → Mem → Prop) (R : Val → Mem → Prop)
    (hst : ∀ i l m, I i l m → still chk m)
    (hs : ∀ i x l m, xs[i]? = some x → I i l m → ∃ l1, assignT m t x l = some l1 ∧ (b l1 m).P (I (i + 1)) R) :
    ∀ {l : Loc} {m : Mem}, I 0 l m → (∃ l' m', forLoop chk t b xs l m = .nx l' m' ∧ I xs.length l' m') ∨ ∃ v m', forLoop chk t b xs l m = .ret v m' ∧ R v m' := by
  have key : ∀ (n : Nat) (i : Nat) (l : Loc) (m : Mem), xs.length - i = n → i ≤ xs.length → I i l m → (∃ l' m', forLoop chk t b (xs.drop i) l m = .nx l' m' ∧ I xs.length l' m') ∨ ∃ v m', forLoop chk t b (xs.drop i) l m = .ret v m' ∧ R v m' := by
    intro n
    induction n with
    | zero =>
      intro i l m hn hi h
      have e : i = xs.length := by omega
      subst e
      refine .inl ⟨l, m, ?_, h⟩
      rw [List.drop_length, forLoop, if_pos (hst _ _ _ h)]
    | succ n ih =>
      intro i l m hn hi h
      have hlt : i < xs.length := by omega
      obtain ⟨l1, h1, h2⟩ := hs i xs[i] l m (by simp [hlt]) h
      rw [List.drop_eq_getElem_cons hlt, forLoop, if_pos (hst _ _ _ h), h1]
      cases e : b l1 m with
      | nx l2 m2 => rw [e] at h2; simp only [e]; exact ih (i + 1) l2 m2 (by omega) hlt h2
      | cnt l2 m2 => rw [e] at h2; simp only [e]; exact ih (i + 1) l2 m2 (by omega) hlt h2
      | ret v m2 => rw [e] at h2; simp only [e]; exact .inr ⟨v, m2, rfl, h2⟩
      | brk _ _ => rw [e] at h2; exact h2.elim
      | exc _ _ _ _ => rw [e] at h2; exact h2.elim
      | err => rw [e] at h2; exact h2.elim
  intro l m h
  have := key xs.length 0 l m (by simp) (Nat.zero_le _) h
  rwa [List.drop_zero] at this
/-- a loop that runs to its end -/
theorem for_all {chk : Option (Nat × List Val)} {t : Tg} {b : Loc → Mem → Flow} {xs : List Val} (I : Nat → Loc → Mem → Prop)
    (hst : ∀ i l m, I i l m → still chk m)
    (hs : ∀ i x l m, xs[i]? = some x → I i l m → ∃ l1, assignT m t x l = some l1 ∧ (b l1 m).P (I (i + 1)) (fun _ _ => False))
    {l : Loc} {m : Mem} (h : I 0 l m) : ∃ l' m', forLoop chk t b xs l m = .nx l' m' ∧ I xs.length l' m' := by
  rcases for_run (chk := chk) (t := t) (b := b) (xs := xs) I (fun _ _ => False) hst hs h with z | ⟨v, m', _, z⟩
  · exact z
  · exact z.elim
/-- .. or is left -/
def Flow.B (r : Flow) (J B : Loc → Mem → Prop) (R : Val → Mem → Prop) : Prop := match r with
  | .nx l m => J l m
  | .cnt l m => J l m
  | .brk l m => B l m
  | .ret v m => R v m
  | _ => False
theorem Flow.byB {r r' : Flow} {J B : Loc → Mem → Prop} {R : Val → Mem → Prop} (h : r = r') (k : r'.B J B R) : r.B J B R := by rw [h]; exact k
theorem for_brk {chk : Option (Nat × List Val)} {t : Tg} {b : Loc → Mem → Flow} {xs : List Val} (I : Nat → Loc → Mem → Prop) (B : Loc → Mem → Prop)
    (hst : ∀ i l m, I i l m → still chk m)
    (hs : ∀ i x l m, xs[i]? = some x → I i l m → ∃ l1, assignT m t x l = some l1 ∧ (b l1 m).B (I (i + 1)) B (fun _ _ => False)) :
    ∀ {l : Loc} {m : Mem}, I 0 l m → ∃ l' m', forLoop chk t b xs l m = .nx l' m' ∧ (I xs.length l' m' ∨ B l' m') := by
  have key : ∀ (n : Nat) (i : Nat) (l : Loc) (m : Mem), xs.length - i = n → i ≤ xs.length → I i l m → ∃ l' m', forLoop chk t b (xs.drop i) l m = .nx l' m' ∧ (I xs.length l' m' ∨ B l' m') := by
    intro n
    induction n with
    | zero =>
      intro i l m hn hi h
      have e : i = xs.length := by omega
      subst e
      refine ⟨l, m, ?_, .inl h⟩
      rw [List.drop_length, forLoop, if_pos (hst _ _ _ h)]
    | succ n ih =>
      intro i l m hn hi h
      have hlt : i < xs.length := by omega
      obtain ⟨l1, h1, h2⟩ := hs i xs[i] l m (by simp [hlt]) h
      rw [List.drop_eq_getElem_cons hlt, forLoop, if_pos (hst _ _ _ h), h1]
      cases e : b l1 m with
      | nx l2 m2 => rw [e] at h2; simp only [e]; exact ih (i + 1) l2 m2 (by omega) hlt h2
      | cnt l2 m2 => rw [e] at h2; simp only [e]; exact ih (i + 1) l2 m2 (by omega) hlt h2
      | ret v m2 => rw [e] at h2; exact h2.elim
      | brk l2 m2 => rw [e] at h2; simp only [e]; exact ⟨l2, m2, rfl, .inr h2⟩
      | exc _ _ _ _ => rw [e] at h2; exact h2.elim
      | err => rw [e] at h2; exact h2.elim
  intro l m h
  have := key xs.length 0 l m (by simp) (Nat.zero_le _) h
  rwa [List.drop_zero] at this
@[simp] theorem asg_name (m : Mem) (i : Nat) (v : Val) (l : Loc) : assignT m (.name i) v l = some (l.set i (some v)) := by rw [assignT]
@[simp] theorem asg_tup (m : Mem) (ts : List Tg) (xs : List Val) (l : Loc) : assignT m (.tup ts) (.tup xs) l = assignTs m ts xs l := by rw [assignT]
@[simp] theorem asgs_nil (m : Mem) (l : Loc) : assignTs m [] [] l = some l := by rw [assignTs]
@[simp] theorem asgs_cons (m : Mem) (t : Tg) (ts : List Tg) (x : Val) (xs : List Val) (l : Loc) : assignTs m (t :: ts) (x :: xs) l = (assignT m t x l).bind fun l' => assignTs m ts xs l' := by rw [assignTs]
theorem rng_get {n i : Nat} {x : Val} (h : ((List.range n).map fun (i : Nat) => Val.int i)[i]? = some x) : i < n ∧ x = .int i := by
  rw [List.getElem?_map] at h
  cases e : (List.range n)[i]? with
  | none => rw [e] at h; cases h
  | some j =>
    rw [e] at h
    obtain ⟨h1, h2⟩ := List.getElem?_eq_some_iff.mp e
    simp at h1 h2
    subst h2
    exact ⟨h1, (Option.some.inj h).symm⟩
theorem rng2_get {lo : Int} {n i : Nat} {x : Val} (h : ((List.range n).map fun (i : Nat) => Val.int (lo + i))[i]? = some x) : i < n ∧ x = .int (lo + i) := by
  rw [List.getElem?_map] at h
  cases e : (List.range n)[i]? with
  | none => rw [e] at h; cases h
  | some j =>
    rw [e] at h
    obtain ⟨h1, h2⟩ := List.getElem?_eq_some_iff.mp e
    simp at h1 h2
    subst h2
    exact ⟨h1, (Option.some.inj h).symm⟩
theorem callN_fn {P : Prog} {d : Nat} {f : Str} {fd : Fn} {vs : List Val} {m : Mem} (h : P.ent f = some (.fn fd)) (hl : vs.length = fd.np) : callN P (d + 1) f vs m = gc m (retOf (execB P (callN P d) fd.body (start fd.ns vs) m)) := by
  rw [callN, h]; simp only; rw [if_pos hl]

/-! ### operations -/
theorem mulOk_small {i j : Int} (h : (-18446744073709551616 < i ∧ i < 18446744073709551616) ∨ (-18446744073709551616 < j ∧ j < 18446744073709551616)) : mulOk i j := by
  unfold mulOk big64; exact h
theorem divOk_small {j : Int} (h : j ≠ 0 ∧ j.natAbs < 1073741824) : divOk j := h
@[simp] theorem op_reps {m : Mem} {k : Nat} {i : Int} {xs : List Val} (h : m.list k = some xs) (h1 : (-9223372036854775808 ≤ i ∧ i < 9223372036854775808) ∧ xs.length * i.toNat ≤ SZ) : binop .mul (.ref k) (.int i) m = .ok (.ref m.length) (m ++ [.list (List.replicate i.toNat xs).flatten]) := by
  unfold binop; simp only [h]; rw [if_pos h1]
@[simp] theorem op_addI (i j : Int) (m : Mem) : binop .add (.int i) (.int j) m = .ok (.int (i + j)) m := id rfl
@[simp] theorem op_subI (i j : Int) (m : Mem) : binop .sub (.int i) (.int j) m = .ok (.int (i - j)) m := id rfl
theorem op_mulI {i j : Int} {m : Mem} (h : mulOk i j) : binop .mul (.int i) (.int j) m = .ok (.int (i * j)) m := if_pos h
theorem op_divI {i j : Int} {m : Mem} (h : divOk j) : binop .fdiv (.int i) (.int j) m = .ok (.int (i.fdiv j)) m := if_pos h
theorem op_modI {i j : Int} {m : Mem} (h : 0 < j) : binop .mod (.int i) (.int j) m = .ok (.int (i % j)) m := if_pos h
theorem op_powI {i j : Int} {m : Mem} (h : powOk i j) : binop .pow (.int i) (.int j) m = .ok (.int (i ^ j.toNat)) m := if_pos h
theorem op_powL {j : Int} {m : Mem} (h : 0 ≤ j ∧ j ≤ 1000000) : binop .pow (.int 10) (.int j) m = .ok (.int (10 ^ j.toNat)) m := if_pos ⟨h.1, h.2, by decide⟩
@[simp] theorem aug_addI (i j : Int) (m : Mem) : augop .add (.int i) (.int j) m = .ok (.int (i + j)) m := id rfl
@[simp] theorem aug_subI (i j : Int) (m : Mem) : augop .sub (.int i) (.int j) m = .ok (.int (i - j)) m := id rfl
@[simp] theorem neg_I (i : Int) (m : Mem) : negop (.int i) m = .ok (.int (-i)) m := id rfl
@[simp] theorem ltI (i j : Int) (m : Mem) : cmpop .lt (.int i) (.int j) m = some (decide (i < j)) := id rfl
@[simp] theorem leI (i j : Int) (m : Mem) : cmpop .le (.int i) (.int j) m = some (decide (i ≤ j)) := id rfl
@[simp] theorem gtI (i j : Int) (m : Mem) : cmpop .gt (.int i) (.int j) m = some (decide (j < i)) := id rfl
@[simp] theorem geI (i j : Int) (m : Mem) : cmpop .ge (.int i) (.int j) m = some (decide (j ≤ i)) := id rfl
@[simp] theorem dat_int (i : Int) : (Val.int i).dat = true := by unfold Val.dat Val.pl Val.depth; rfl
@[simp] theorem dat_bool (i : Bool) : (Val.bool i).dat = true := by unfold Val.dat Val.pl Val.depth; rfl
@[simp] theorem dat_none : Val.none.dat = true := by unfold Val.dat Val.pl Val.depth; rfl
@[simp] theorem dat_str (i : List Nat) : (Val.str i).dat = true := by unfold Val.dat Val.pl Val.depth; rfl
@[simp] theorem eqI (i j : Int) (m : Mem) : cmpop .eq (.int i) (.int j) m = some (i == j) := by
  show eqop m (.int i) (.int j) = _
  unfold eqop; simp [Val.eqv]
@[simp] theorem neI (i j : Int) (m : Mem) : cmpop .ne (.int i) (.int j) m = some (!(i == j)) := by
  show (eqop m (.int i) (.int j)).map not = _
  unfold eqop; simp [Val.eqv]
@[simp] theorem tr_bool (m : Mem) (b : Bool) : truth m (.bool b) = some b := id rfl
@[simp] theorem tr_int (m : Mem) (b : Int) : truth m (.int b) = some (b != 0) := id rfl
@[simp] theorem blt_int_int (i : Int) (m : Mem) : bltop .int [.int i] m = .ok (.int i) m := id rfl
@[simp] theorem blt_int_bool (i : Bool) (m : Mem) : bltop .int [.bool i] m = .ok (.int (if i then 1 else 0)) m := id rfl
@[simp] theorem blt_abs (i : Int) (m : Mem) : bltop .abs [.int i] m = .ok (.int (if i < 0 then -i else i)) m := id rfl
@[simp] theorem blt_min (i j : Int) (m : Mem) : bltop .min [.int i, .int j] m = .ok (.int (if j < i then j else i)) m := id rfl
@[simp] theorem blt_max (i j : Int) (m : Mem) : bltop .max [.int i, .int j] m = .ok (.int (if j > i then j else i)) m := id rfl
@[simp] theorem blt_len_fro (xs : List Int) (m : Mem) : bltop .len [.fro xs] m = .ok (.int xs.length) m := id rfl
@[simp] theorem bm_app {m : Mem} {k : Nat} {v : Val} {xs : List Val} (h : m.list k = some xs) (hl : xs.length < SZ) : bmop .append (.ref k) [v] m = .ok .none (m.set k (.list (xs ++ [v]))) := by
  unfold bmop; simp only [h]; rw [if_pos hl]
theorem recv_list {f : BM} {m : Mem} {k : Nat} {xs : List Val} (h : m.list k = some xs) : recvOk f m (.ref k) = true := by
  unfold recvOk; simp only [h]; rfl

/-! ### the evaluator's clauses -/
@[simp] theorem ev_evalE0 (P : Prog) (C : Calls) (l : Loc) (m : Mem) {v} : evalE P C (.lit v) l m = (.ok v m) := by rw [evalE] <;> rfl
@[simp] theorem ev_evalE1 (P : Prog) (C : Calls) (l : Loc) (m : Mem) {i} : evalE P C (.var i) l m = (match l[i]? with
    | some (some v) => .ok v m
    | _ => .err) := by rw [evalE] <;> rfl
@[simp] theorem ev_evalE2 (P : Prog) (C : Calls) (l : Loc) (m : Mem) {x} : evalE P C (.glob x) l m = (match P.glob x with
    | some v => .ok v m
    | none => .err) := by rw [evalE] <;> rfl
@[simp] theorem ev_evalE3 (P : Prog) (C : Calls) (l : Loc) (m : Mem) {o} {a} {b} : evalE P C (.bin o a b) l m = ((evalE P C a l m).bind fun x m1 => (evalE P C b l m1).bind fun y m2 => binop o x y m2) := by rw [evalE] <;> rfl
@[simp] theorem ev_evalE4 (P : Prog) (C : Calls) (l : Loc) (m : Mem) {a} : evalE P C (.neg a) l m = ((evalE P C a l m).bind fun x m1 => negop x m1) := by rw [evalE] <;> rfl
@[simp] theorem ev_evalE5 (P : Prog) (C : Calls) (l : Loc) (m : Mem) {o} {a} {b} : evalE P C (.cmp o a b) l m = ((evalE P C a l m).bind fun x m1 => (evalE P C b l m1).bind fun y m2 => match cmpop o x y m2 with
    | some c => .ok (.bool c) m2
    | none => .err) := by rw [evalE] <;> rfl
@[simp] theorem ev_evalE6 (P : Prog) (C : Calls) (l : Loc) (m : Mem) {o} {p} {a} {b} {c} : evalE P C (.chain o p a b c) l m = ((evalE P C a l m).bind fun x m1 => (evalE P C b l m1).bind fun y m2 => match cmpop o x y m2 with
    | some true => (evalE P C c l m2).bind fun z m3 => match cmpop p y z m3 with
      | some d => .ok (.bool d) m3
      | none => .err
    | some false => .ok (.bool false) m2
    | none => .err) := by rw [evalE] <;> rfl
@[simp] theorem ev_evalE7 (P : Prog) (C : Calls) (l : Loc) (m : Mem) {a} {b} : evalE P C (.band a b) l m = ((evalE P C a l m).bind fun x m1 => match x with
    | .bool true => evalE P C b l m1
    | .bool false => .ok (.bool false) m1
    | _ => .err) := by rw [evalE] <;> rfl
@[simp] theorem ev_evalE8 (P : Prog) (C : Calls) (l : Loc) (m : Mem) {a} {b} : evalE P C (.bor a b) l m = ((evalE P C a l m).bind fun x m1 => match x with
    | .bool false => evalE P C b l m1
    | .bool true => .ok (.bool true) m1
    | _ => .err) := by rw [evalE] <;> rfl
@[simp] theorem ev_evalE9 (P : Prog) (C : Calls) (l : Loc) (m : Mem) {a} : evalE P C (.bnot a) l m = ((evalE P C a l m).bind fun x m1 => match x with
    | .bool b => .ok (.bool (!b)) m1
    | _ => .err) := by rw [evalE] <;> rfl
@[simp] theorem ev_evalE10 (P : Prog) (C : Calls) (l : Loc) (m : Mem) {c} {a} {b} : evalE P C (.ite c a b) l m = ((evalE P C c l m).bind fun x m1 => match truth m1 x with
    | some true => evalE P C a l m1
    | some false => evalE P C b l m1
    | none => .err) := by rw [evalE] <;> rfl
@[simp] theorem ev_evalE11 (P : Prog) (C : Calls) (l : Loc) (m : Mem) {es} : evalE P C (.tup es) l m = ((evalL P C es l m).bind fun vs m1 => if vs.length ≤ SZ then .ok (.tup vs) m1 else .err) := by rw [evalE] <;> rfl
@[simp] theorem ev_evalE12 (P : Prog) (C : Calls) (l : Loc) (m : Mem) {es} : evalE P C (.lst es) l m = ((evalL P C es l m).bind fun vs m1 => if vs.length ≤ SZ then .ok (.ref m1.length) (m1 ++ [.list vs]) else .err) := by rw [evalE] <;> rfl
@[simp] theorem ev_evalE13 (P : Prog) (C : Calls) (l : Loc) (m : Mem) {tk} {ks} {vs} : evalE P C (.dct tk ks vs) l m = ((evalL P C ks l m).bind fun xs m1 => (evalL P C vs l m1).bind fun ys m2 => match xs, ys with
    | [], [] => .ok (.ref m2.length) (m2 ++ [.dict tk []])
    | _, _ => .err) := by rw [evalE] <;> rfl
@[simp] theorem ev_evalE14 (P : Prog) (C : Calls) (l : Loc) (m : Mem) {f} {es} : evalE P C (.call f es) l m = ((evalL P C es l m).bind fun vs m1 => C f vs m1) := by rw [evalE] <;> rfl
@[simp] theorem ev_evalE15 (P : Prog) (C : Calls) (l : Loc) (m : Mem) {f} {es} : evalE P C (.blt f es) l m = (gc m ((evalL P C es l m).bind fun vs m1 => bltop f vs m1)) := by rw [evalE] <;> rfl
@[simp] theorem ev_evalE16 (P : Prog) (C : Calls) (l : Loc) (m : Mem) {a} {ty} : evalE P C (.isi a ty) l m = ((evalE P C a l m).bind fun x m1 => match tyOf m1 x with
    | some t => .ok (.bool (isiK t ty)) m1
    | none => .err) := by rw [evalE] <;> rfl
@[simp] theorem ev_evalE17 (P : Prog) (C : Calls) (l : Loc) (m : Mem) {o} {f} {es} : evalE P C (.meth o f es) l m = ((evalE P C o l m).bind fun x m1 => match x with
    | .ref k => match m1[k]? with
      | some (.inst c fs) => match P.meth c f with
        | some q => if (fs.lookup f).isNone = true then (evalL P C es l m1).bind fun vs m2 => C q (x :: vs) m2 else .err
        | none => .err
      | _ => .err
    | _ => .err) := by rw [evalE] <;> rfl
@[simp] theorem ev_evalE18 (P : Prog) (C : Calls) (l : Loc) (m : Mem) {o} {f} {es} : evalE P C (.bm o f es) l m = ((evalE P C o l m).bind fun x m1 => if recvOk f m1 x = true then (evalL P C es l m1).bind fun vs m2 => bmop f x vs m2 else .err) := by rw [evalE] <;> rfl
@[simp] theorem ev_evalE19 (P : Prog) (C : Calls) (l : Loc) (m : Mem) {o} {f} : evalE P C (.attr o f) l m = ((evalE P C o l m).bind fun x m1 => attrP P C f x m1) := by rw [evalE] <;> rfl
@[simp] theorem ev_evalE26 (P : Prog) (C : Calls) (l : Loc) (m : Mem) {a} : evalE P C (.lenO a) l m = ((evalE P C a l m).bind fun x m1 => lenR P C x m1) := by rw [evalE] <;> rfl
@[simp] theorem ev_evalE27 (P : Prog) (C : Calls) (l : Loc) (m : Mem) {a} : evalE P C (.listO a) l m = ((evalE P C a l m).bind fun x m1 => listR P C x m1) := by rw [evalE] <;> rfl
@[simp] theorem ev_evalE28 (P : Prog) (C : Calls) (l : Loc) (m : Mem) {o} {a} : evalE P C (.join o a) l m = (gc m ((evalE P C o l m).bind fun x m1 => strR x fun s => (evalE P C a l m1).bind fun y m2 => joinR s y m2)) := by rw [evalE] <;> rfl
@[simp] theorem ev_evalI4 (P : Prog) (C : Calls) (l : Loc) (m : Mem) {e} : evalI P C (.own e) l m = ((evalE P C e l m).bind fun x m1 => ownR P x m1) := by rw [evalI] <;> rfl
@[simp] theorem strR_ok (s : List Nat) (f : List Nat → Res Val) : strR (.str s) f = f s := id rfl
/-- a field's value -/
theorem attr_fld {P : Prog} {C : Calls} {f c : Str} {k : Nat} {m : Mem} {fs : List (Str × Val)} {v : Val} (h : m[k]? = some (.inst c fs)) (hp : P.prop c f = none) (hf : fs.lookup f = some v) : attrP P C f (.ref k) m = .ok v m := by
  unfold attrP; simp only [h, hp, hf]
/-- a property's value -/
theorem attr_prop {P : Prog} {C : Calls} {f c q : Str} {k : Nat} {m m2 : Mem} {fs : List (Str × Val)} {v : Val} (h : m[k]? = some (.inst c fs)) (hp : P.prop c f = some q) (hc : C q [.ref k] m = .ok v m2) : attrP P C f (.ref k) m = .ok v m2 := by
  unfold attrP; simp only [h, hp, hc]
theorem lenR_ok {P : Prog} {C : Calls} {c q : Str} {k : Nat} {m m2 : Mem} {fs : List (Str × Val)} {n : Int} (h : m[k]? = some (.inst c fs)) (hp : P.meth c "__len__" = some q) (hc : C q [.ref k] m = .ok (.int n) m2) (hn : 0 ≤ n ∧ n < 9223372036854775808) : lenR P C (.ref k) m = .ok (.int n) m2 := by
  unfold lenR; simp only [h, hp, hc]; rw [if_pos hn]
theorem iterL_ok {P : Prog} {c f : Str} {k l : Nat} {m : Mem} {fs : List (Str × Val)} {xs : List Val} (h : m[k]? = some (.inst c fs)) (hp : P.iter c = some f) (hf : fs.lookup f = some (.ref l)) (hl : m.list l = some xs) : iterL P (.ref k) m = some l := by
  unfold iterL; simp only [h, hp, hf, hl]; rfl
theorem listR_ok {P : Prog} {C : Calls} {l : Nat} {x : Val} {m m2 : Mem} {xs : List Val} {n : Int} (h : iterL P x m = some l) (hl : lenR P C x m = .ok (.int n) m2) (hn : n ≤ SZ) (hx : m2.list l = some xs) : listR P C x m = .ok (.ref m2.length) (m2 ++ [.list xs]) := by
  unfold listR; simp only [h, hl, hx]; rw [if_pos hn]
theorem ownR_ok {P : Prog} {l : Nat} {x : Val} {m : Mem} {xs : List Val} (h : iterL P x m = some l) (hx : m.list l = some xs) : ownR P x m = .ok (xs, some (l, xs)) m := by
  unfold ownR; simp only [h, hx]
@[simp] theorem ev_evalE20 (P : Prog) (C : Calls) (l : Loc) (m : Mem) {a} {i} : evalE P C (.idx a i) l m = ((evalE P C a l m).bind fun x m1 => (evalE P C i l m1).bind fun y m2 => match idxop m2 x y with
    | some v => .ok v m2
    | none => .err) := by rw [evalE] <;> rfl
@[simp] theorem ev_evalE21 (P : Prog) (C : Calls) (l : Loc) (m : Mem) {a} {lo} {hi} : evalE P C (.sliceB a lo hi) l m = ((evalE P C a l m).bind fun x m1 => (evalE P C lo l m1).bind fun p m2 => intR p m2 fun i => (evalE P C hi l m2).bind fun q m3 => intR q m3 fun j => sliceop m3 x (some i) (some j)) := by rw [evalE] <;> rfl
@[simp] theorem ev_evalE22 (P : Prog) (C : Calls) (l : Loc) (m : Mem) {a} {lo} : evalE P C (.sliceL a lo) l m = ((evalE P C a l m).bind fun x m1 => (evalE P C lo l m1).bind fun p m2 => intR p m2 fun i => sliceop m2 x (some i) none) := by rw [evalE] <;> rfl
@[simp] theorem ev_evalE23 (P : Prog) (C : Calls) (l : Loc) (m : Mem) {a} {hi} : evalE P C (.sliceH a hi) l m = ((evalE P C a l m).bind fun x m1 => (evalE P C hi l m1).bind fun q m3 => intR q m3 fun j => sliceop m3 x none (some j)) := by rw [evalE] <;> rfl
@[simp] theorem ev_evalE24 (P : Prog) (C : Calls) (l : Loc) (m : Mem) {elt} {t} {it} : evalE P C (.comp elt t it) l m = ((evalI P C it l m).bind fun w m1 => compEnd (compLoop w.2 (compEl t l (evalE P C elt)) w.1 m1)) := by rw [evalE] <;> rfl
@[simp] theorem ev_evalE25 (P : Prog) (C : Calls) (l : Loc) (m : Mem) {elt} {t} {it} {c} : evalE P C (.compIf elt t it c) l m = ((evalI P C it l m).bind fun w m1 => compEnd (compLoop w.2 (compElIf t l (evalE P C c) (evalE P C elt)) w.1 m1)) := by rw [evalE] <;> rfl
@[simp] theorem ev_evalL0 (P : Prog) (C : Calls) (l : Loc) (m : Mem) : evalL P C ([]) l m = (.ok [] m) := by rw [evalL] <;> rfl
@[simp] theorem ev_evalL1 (P : Prog) (C : Calls) (l : Loc) (m : Mem) {e} {es} : evalL P C (e :: es) l m = ((evalE P C e l m).bind fun x m1 => (evalL P C es l m1).bind fun xs m2 => .ok (x :: xs) m2) := by rw [evalL] <;> rfl
@[simp] theorem ev_evalI0 (P : Prog) (C : Calls) (l : Loc) (m : Mem) {e} : evalI P C (.seq e) l m = ((evalE P C e l m).bind fun x m1 => match x with
    | .tup xs => .ok (xs, none) m1
    | .fro xs => .ok (xs.map .int, none) m1
    | .ref k => match m1.list k with
      | some xs => .ok (xs, some (k, xs)) m1
      | none => .err
    | .str s => .ok (s.map fun c => .str [c], none) m1
    | _ => .err) := by rw [evalI] <;> rfl
@[simp] theorem ev_evalI1 (P : Prog) (C : Calls) (l : Loc) (m : Mem) {a} : evalI P C (.range1 a) l m = ((evalE P C a l m).bind fun x m1 => match x with
    | .int j => if -4611686018427387904 ≤ j ∧ j < 4611686018427387904 then .ok ((List.range j.toNat).map fun (i : Nat) => .int i, none) m1 else .err
    | _ => .err) := by rw [evalI] <;> rfl
@[simp] theorem ev_evalI2 (P : Prog) (C : Calls) (l : Loc) (m : Mem) {a} {b} : evalI P C (.range2 a b) l m = ((evalE P C a l m).bind fun x m1 => (evalE P C b l m1).bind fun y m2 => match x, y with
    | .int i, .int j => if (-4611686018427387904 ≤ i ∧ i < 4611686018427387904) ∧ -4611686018427387904 ≤ j ∧ j < 4611686018427387904 then .ok ((List.range (j - i).toNat).map fun (k : Nat) => .int (i + k), none) m2 else .err
    | _, _ => .err) := by rw [evalI] <;> rfl
@[simp] theorem ev_evalI3 (P : Prog) (C : Calls) (l : Loc) (m : Mem) {a} {b} : evalI P C (.zip a b) l m = (.err) := by rw [evalI] <;> rfl
@[simp] theorem ev_execS0 (P : Prog) (C : Calls) (l : Loc) (m : Mem) : execS P C (.pass) l m = (.nx l m) := by rw [execS] <;> rfl
@[simp] theorem ev_execS1 (P : Prog) (C : Calls) (l : Loc) (m : Mem) {e} : execS P C (.expr e) l m = (bindF l (evalE P C e l m) fun _ m1 => .nx l m1) := by rw [execS] <;> rfl
@[simp] theorem ev_execS2 (P : Prog) (C : Calls) (l : Loc) (m : Mem) {i} {e} : execS P C (.set i e) l m = (bindF l (evalE P C e l m) fun v m1 => .nx (l.set i (some v)) m1) := by rw [execS] <;> rfl
@[simp] theorem ev_execS3 (P : Prog) (C : Calls) (l : Loc) (m : Mem) {t} {e} : execS P C (.asg t e) l m = (bindF l (evalE P C e l m) fun v m1 => match assignT m1 t v l with
    | some l' => .nx l' m1
    | none => .err) := by rw [execS] <;> rfl
@[simp] theorem ev_execS4 (P : Prog) (C : Calls) (l : Loc) (m : Mem) {i} {o} {e} : execS P C (.aug i o e) l m = (match l[i]? with
    | some (some x) => bindF l (evalE P C e l m) fun y m1 => bindF l (augop o x y m1) fun v m2 => .nx (l.set i (some v)) m2
    | _ => .err) := by rw [execS] <;> rfl
@[simp] theorem ev_execS5 (P : Prog) (C : Calls) (l : Loc) (m : Mem) {o} {f} {e} : execS P C (.setAttr o f e) l m = (bindF l (evalE P C e l m) fun v m1 => bindF l (evalE P C o l m1) fun x m2 => match x with
    | .ref k => match m2[k]? with
      | some (.inst c fs) => if fs.length < 1000 ∧ (P.flds c).contains f = true then .nx l (m2.set k (.inst c (putAttr f v fs))) else .err
      | _ => .err
    | _ => .err) := by rw [execS] <;> rfl
@[simp] theorem ev_execS6 (P : Prog) (C : Calls) (l : Loc) (m : Mem) {o} {i} {e} : execS P C (.setIdx o i e) l m = (bindF l (evalE P C e l m) fun v m1 => bindF l (evalE P C o l m1) fun x m2 => bindF l (evalE P C i l m2) fun y m3 => match x, y with
    | .ref k, j => match m3[k]? with
      | some (.list xs) => match j with
        | .int i => match ixOf xs.length i with
          | some n => .nx l (m3.set k (.list (xs.set n v)))
          | none => .err
        | _ => .err
      | _ => .err
    | _, _ => .err) := by rw [execS] <;> rfl
@[simp] theorem ev_execS7 (P : Prog) (C : Calls) (l : Loc) (m : Mem) {o} {i} : execS P C (.del o i) l m = (.err) := by rw [execS] <;> rfl
@[simp] theorem ev_execS8 (P : Prog) (C : Calls) (l : Loc) (m : Mem) : execS P C (.ret none) l m = (.ret .none m) := by rw [execS] <;> rfl
@[simp] theorem ev_execS9 (P : Prog) (C : Calls) (l : Loc) (m : Mem) {e} : execS P C (.ret (some e)) l m = (bindF l (evalE P C e l m) fun v m1 => .ret v m1) := by rw [execS] <;> rfl
@[simp] theorem ev_execS10 (P : Prog) (C : Calls) (l : Loc) (m : Mem) {c} {a} {b} : execS P C (.ifs c a b) l m = (bindF l (evalE P C c l m) fun v m1 => match truth m1 v with
    | some true => execB P C a l m1
    | some false => execB P C b l m1
    | none => .err) := by rw [execS] <;> rfl
@[simp] theorem ev_execS11 (P : Prog) (C : Calls) (l : Loc) (m : Mem) {c} {b} : execS P C (.whl c b) l m = (whileLoop (evalE P C c) (execB P C b) WMAX l m) := by rw [execS] <;> rfl
@[simp] theorem ev_execS12 (P : Prog) (C : Calls) (l : Loc) (m : Mem) {t} {it} {b} : execS P C (.fr t it b) l m = (match evalI P C it l m with
    | .ok w m1 => forLoop w.2 t (execB P C b) w.1 l m1
    | .exc c fs m1 => .exc l c fs m1
    | .err => .err) := by rw [execS] <;> rfl
@[simp] theorem ev_execS13 (P : Prog) (C : Calls) (l : Loc) (m : Mem) : execS P C (.brk) l m = (.brk l m) := by rw [execS] <;> rfl
@[simp] theorem ev_execS14 (P : Prog) (C : Calls) (l : Loc) (m : Mem) : execS P C (.cnt) l m = (.cnt l m) := by rw [execS] <;> rfl
@[simp] theorem ev_execS15 (P : Prog) (C : Calls) (l : Loc) (m : Mem) : execS P C (.dead) l m = (.err) := by rw [execS] <;> rfl
@[simp] theorem ev_execB0 (P : Prog) (C : Calls) (l : Loc) (m : Mem) : execB P C ([]) l m = (.nx l m) := by rw [execB] <;> rfl
@[simp] theorem ev_execB1 (P : Prog) (C : Calls) (l : Loc) (m : Mem) {s} {r} : execB P C (s :: r) l m = ((execS P C s l m).seq (execB P C r)) := by rw [execB] <;> rfl
@[simp] theorem bf_ok (l : Loc) (v : Val) (m : Mem) (f : Val → Mem → Flow) : bindF l (.ok v m) f = f v m := id rfl
@[simp] theorem fs_nx (l : Loc) (m : Mem) (f : Loc → Mem → Flow) : (Flow.nx l m).seq f = f l m := id rfl
@[simp] theorem fs_ret (v : Val) (m : Mem) (f : Loc → Mem → Flow) : (Flow.ret v m).seq f = .ret v m := id rfl
@[simp] theorem fs_brk (v : Loc) (m : Mem) (f : Loc → Mem → Flow) : (Flow.brk v m).seq f = .brk v m := id rfl
@[simp] theorem fs_cnt (v : Loc) (m : Mem) (f : Loc → Mem → Flow) : (Flow.cnt v m).seq f = .cnt v m := id rfl
@[simp] theorem ro_nx (l : Loc) (m : Mem) : retOf (.nx l m) = .ok .none m := id rfl
@[simp] theorem ro_ret (v : Val) (m : Mem) : retOf (.ret v m) = .ok v m := id rfl
@[simp] theorem intR_ok (i : Int) (m : Mem) (f : Int → Res Val) : intR (.int i) m f = f i := id rfl
/-- an item of a list of numbers -/
theorem idx_list {m : Mem} {r : Nat} {xs : List Val} {k : Int} (h : m.list r = some xs) : idxop m (.ref r) (.int k) = atIx xs k := by
  unfold Mem.list at h
  unfold idxop
  cases e : m[r]? with
  | none => rw [e] at h; cases h
  | some o =>
    rw [e] at h
    cases o with
    | list ys => cases h; simp only [e]
    | _ => cases h
theorem at_nat {α : Type} {xs : List α} {k : Int} (h0 : 0 ≤ k) (h : k.toNat < xs.length) : atIx xs k = some xs[k.toNat] := by
  unfold atIx ixOf
  rw [if_pos h0, if_pos (by omega)]
  simp [h]
theorem seq_list {m : Mem} {r : Nat} {xs : List Val} (h : m.list r = some xs) : m.seq (.ref r) = some xs := h
theorem blt_list {m : Mem} {v : Val} {xs : List Val} (h : m.seq v = some xs) : bltop .list [v] m = .ok (.ref m.length) (m ++ [.list xs]) := by
  unfold bltop; simp only [h]
theorem blt_tuple {m : Mem} {v : Val} {xs : List Val} (h : m.seq v = some xs) : bltop .tuple [v] m = .ok (.tup xs) m := by
  unfold bltop; simp only [h]
@[simp] theorem pl_int (i : Int) : (Val.int i).pl = true := by unfold Val.pl; rfl
@[simp] theorem pl_bool (i : Bool) : (Val.bool i).pl = true := by unfold Val.pl; rfl
@[simp] theorem pl_none : Val.none.pl = true := by unfold Val.pl; rfl
@[simp] theorem pl_str (i : List Nat) : (Val.str i).pl = true := by unfold Val.pl; rfl
@[simp] theorem pl_tup (xs : List Val) : (Val.tup xs).pl = Val.plL xs := by rw [Val.pl]
@[simp] theorem plL_nil : Val.plL [] = true := by unfold Val.plL; rfl
@[simp] theorem plL_cons (x : Val) (xs : List Val) : Val.plL (x :: xs) = (x.pl && Val.plL xs) := by rw [Val.plL]
@[simp] theorem dp_int (i : Int) : (Val.int i).depth = 0 := by unfold Val.depth; rfl
@[simp] theorem dp_bool (i : Bool) : (Val.bool i).depth = 0 := by unfold Val.depth; rfl
@[simp] theorem dp_none : Val.none.depth = 0 := by unfold Val.depth; rfl
@[simp] theorem dp_str (i : List Nat) : (Val.str i).depth = 0 := by unfold Val.depth; rfl
@[simp] theorem dp_tup (xs : List Val) : (Val.tup xs).depth = Val.depthL xs + 1 := by rw [Val.depth]
@[simp] theorem dpL_nil : Val.depthL [] = 0 := by unfold Val.depthL; rfl
@[simp] theorem dpL_cons (x : Val) (xs : List Val) : Val.depthL (x :: xs) = max x.depth (Val.depthL xs) := by rw [Val.depthL]
mutual
theorem eqv_refl : ∀ v : Val, v.pl = true → v.eqv v = true
  | .none, _ => by simp [Val.eqv]
  | .bool _, _ => by simp [Val.eqv]
  | .int _, _ => by simp [Val.eqv]
  | .str _, _ => by simp [Val.eqv]
  | .tup xs, h => by rw [Val.eqv]; exact eqvL_refl xs (by simpa using h)
  | .fro _, h => by simp [Val.pl] at h
  | .ref _, h => by simp [Val.pl] at h
theorem eqvL_refl : ∀ v : List Val, Val.plL v = true → Val.eqvL v v = true
  | [], _ => by simp [Val.eqvL]
  | x :: xs, h => by
    rw [plL_cons, Bool.and_eq_true] at h
    rw [Val.eqvL, eqv_refl x h.1, eqvL_refl xs h.2]; rfl
end
theorem plL_all : ∀ {xs : List Val}, (∀ x ∈ xs, x.pl = true) → Val.plL xs = true
  | [], _ => by simp
  | x :: xs, h => by rw [plL_cons, h x List.mem_cons_self, plL_all fun y hy => h y (List.mem_cons_of_mem _ hy)]; rfl
theorem dpL_all {n : Nat} : ∀ {xs : List Val}, (∀ x ∈ xs, x.depth ≤ n) → Val.depthL xs ≤ n
  | [], _ => by simp
  | x :: xs, h => by rw [dpL_cons]; exact Nat.max_le.mpr ⟨h x List.mem_cons_self, dpL_all fun y hy => h y (List.mem_cons_of_mem _ hy)⟩
/-- two lists of the same data are equal -/
theorem ne_lists {m : Mem} {a b : Nat} {xs : List Val} (h1 : m.list a = some xs) (h2 : m.list b = some xs) (h : datL xs = true) : cmpop .ne (.ref a) (.ref b) m = some false := by
  show (eqop m (.ref a) (.ref b)).map not = _
  unfold eqop
  simp only [h1, h2, h, Bool.and_self, if_true, Option.map_some]
  have : Val.plL xs = true := by unfold datL at h; rw [Bool.and_eq_true] at h; exact h.1
  rw [eqvL_refl xs this]; rfl
theorem datL_of {xs : List Val} (h : ∀ x ∈ xs, x.pl = true ∧ x.depth ≤ 59) : datL xs = true := by
  unfold datL
  rw [plL_all fun x hx => (h x hx).1, Bool.true_and]
  exact decide_eq_true (dpL_all fun x hx => (h x hx).2)
/-- a comprehension that changes nothing -/
theorem comp_pure {chk : Option (Nat × List Val)} {el : Val → Mem → Res (Option Val)} {m : Mem} (f : Val → Option Val) (hst : still chk m) : ∀ {xs : List Val}, (∀ x ∈ xs, el x m = .ok (f x) m) → compLoop chk el xs m = .ok (xs.filterMap f) m
  | [], _ => by rw [compLoop, if_pos hst]; rfl
  | x :: xs, h => by
    rw [compLoop, if_pos hst, h x List.mem_cons_self]
    simp only [Res.bind]
    rw [comp_pure f hst fun y hy => h y (List.mem_cons_of_mem _ hy)]
    cases q : f x <;> simp [List.filterMap_cons, q]
theorem compEnd_ok {m : Mem} {ys : List Val} (h : ys.length ≤ SZ) : compEnd (.ok ys m) = .ok (.ref m.length) (m ++ [.list ys]) := if_pos h
theorem gc_set {m0 g : Mem} {k : Nat} {o : Ob} {v : Val} (hk : k < m0.length) (hu : o.under m0.length = true) (hv : v.under m0.length = true) : gc m0 (.ok v (m0.set k o ++ g)) = .ok v (m0.set k o) := by
  unfold gc
  have e : (m0.set k o ++ g).take m0.length = m0.set k o := by
    rw [List.take_append_of_le_length (by simp)]
    exact List.take_of_length_le (by simp)
  have hc : m0.length ≤ (m0.set k o ++ g).length ∧ ∀ (i : Nat) (ob : Ob), (m0.set k o)[i]? = some ob → m0[i]? = some ob ∨ ob.under m0.length = true := by
    refine ⟨by simp, fun i ob q => ?_⟩
    by_cases h : k = i
    · subst h
      rw [List.getElem?_set_self hk] at q
      cases q
      exact .inr hu
    · rw [List.getElem?_set_ne h] at q
      exact .inl q
  simp only [e]
  rw [if_pos (by rw [e]; exact hc), if_pos hv]
theorem list_set {m : Mem} {k j : Nat} {o : Ob} (h : k ≠ j) : Mem.list (m.set k o) j = m.list j := by
  unfold Mem.list
  rw [List.getElem?_set_ne h]
theorem list_set_self {m : Mem} {k : Nat} {xs : List Val} (h : k < m.length) : Mem.list (m.set k (.list xs)) k = some xs := by
  unfold Mem.list
  rw [List.getElem?_set_self h]
theorem get_of_list {m : Mem} {k : Nat} {xs : List Val} (h : m.list k = some xs) : m[k]? = some (.list xs) := by
  unfold Mem.list at h
  cases q : m[k]? with
  | none => rw [q] at h; cases h
  | some o =>
    rw [q] at h
    cases o with
    | list ys => cases h; rfl
    | _ => cases h
theorem ixOf_nat {n : Nat} {k : Int} (h0 : 0 ≤ k) (h : k.toNat < n) : ixOf n k = some k.toNat := by
  unfold ixOf
  rw [if_pos h0, if_pos (by omega)]
theorem len_list {m : Mem} {k : Nat} {xs : List Val} {n : Int} (h : m.list k = some xs) (e : (xs.length : Int) = n) : bltop .len [.ref k] m = .ok (.int n) m := by
  unfold bltop lenop
  simp only [get_of_list h]
  rw [e]
theorem gc_set0 {m0 : Mem} {k : Nat} {o : Ob} {v : Val} (hk : k < m0.length) (hu : o.under m0.length = true) (hv : v.under m0.length = true) : gc m0 (.ok v (m0.set k o)) = .ok v (m0.set k o) := by
  have := gc_set (g := []) hk hu hv
  rwa [List.append_nil] at this
end Py

namespace L39
open PySem PySem.Spec PyProof.Rows L2 Py
/-! ### the text, its plain program -/
def top (i : Nat) : Stmt := PySem.Challenge.pw_oncecoin_k39_two_ends_over_a_bag.main.body.getD i (.Pass ⟨0, 0, 0, 0⟩)
def clsBody : Stmt → List Stmt
  | .ClassDef _ _ _ b _ _ _ _ _ _ _ => b
  | _ => []
def b__wall_1 : List S := [.pass]
def f__wall : Fn := ⟨1, 1, [(.whl (.lit (.bool true)) b__wall_1)]⟩
def d__wall : Df := ⟨.fn "_wall", "_wall", "_wall", "_wall", top 0, (["k"] : List PySem.Str), (["k"] : List PySem.Str), f__wall⟩
theorem o__wall : DfOk d__wall := ⟨fun K f fd F => F.bindsN fun _ _ _ _ _ _ us hl => match us, hl with | [_], _ => rfl, ⟨rfl, rfl, rfl, by decide +kernel, rfl, by decide +kernel, by decide +kernel⟩, rfl, rfl⟩
def b__law_pool_1 : List S := [(.expr (.bm (.var 2) .append [(.bin .mod (.blt .int [(.var 5)]) (.lit (.int 2520)))])), (.set 5 (.bin .fdiv (.var 5) (.lit (.int 2520)))), (.ifs (.cmp .eq (.var 5) (.lit (.int 0))) [.brk] [])]
def b__law_pool_2 : List S := [(.set 5 (.blt .int [(.blt .abs [(.var 4)])])), (.ifs (.cmp .ge (.var 5) (.bin .pow (.lit (.int 10)) (.lit (.int 18)))) [(.fr (.name 6) (.range1 (.blt .min [(.lit (.int 60)), (.bin .sub (.var 1) (.blt .len [(.var 2)]))])) b__law_pool_1)] [(.set 7 (.bin .mod (.blt .int [(.bin .add (.bin .add (.bin .mul (.var 4) (.lit (.int 48271))) (.bin .mul (.blt .len [(.var 2)]) (.lit (.int 69621)))) (.lit (.int 11)))]) (.lit (.int 2147483647)))), (.set 8 (.bin .mod (.blt .int [(.bin .add (.bin .mul (.var 7) (.var 7)) (.lit (.int 5)))]) (.lit (.int 2147483629)))), (.expr (.bm (.var 2) .append [(.bin .mod (.blt .int [(.bin .fdiv (.var 8) (.lit (.int 7)))]) (.lit (.int 2520)))])), (.expr (.bm (.var 2) .append [(.bin .mod (.bin .mod (.blt .int [(.bin .add (.bin .mul (.var 8) (.lit (.int 16807))) (.var 7))]) (.lit (.int 2147483587))) (.lit (.int 2520)))]))]), (.set 3 (.bin .mod (.blt .int [(.bin .add (.bin .mul (.var 3) (.lit (.int 263))) (.var 4))]) (.lit (.int 1000003))))]
def b__law_pool_3 : List S := [(.set 3 (.bin .mod (.blt .int [(.bin .add (.bin .add (.bin .mul (.var 3) (.lit (.int 48271))) (.bin .mul (.var 6) (.lit (.int 69621)))) (.lit (.int 17)))]) (.lit (.int 2147483647)))), (.expr (.bm (.var 2) .append [(.bin .mod (.blt .int [(.bin .fdiv (.var 3) (.lit (.int 5)))]) (.lit (.int 2520)))]))]
def f__law_pool : Fn := ⟨2, 9, [(.set 2 (.lst [])), (.set 3 (.lit (.int 1))), (.fr (.name 4) (.seq (.var 0)) b__law_pool_2), (.fr (.name 6) (.range1 (.var 1)) b__law_pool_3), (.set 2 (.sliceH (.var 2) (.var 1))), (.expr (.bm (.var 2) .reverse [])), (.ret (some (.var 2)))]⟩
def d__law_pool : Df := ⟨.fn "_law_pool", "_law_pool", "_law_pool", "_law_pool", top 4, (["_law_script", "_law_many", "_law_pool_here", "_law_total", "_law_cell", "_law_rest", "_law_k", "_law_first", "_law_second"] : List PySem.Str), (["_law_script", "_law_many"] : List PySem.Str), f__law_pool⟩
theorem o__law_pool : DfOk d__law_pool := ⟨fun K f fd F => F.bindsN fun _ _ _ _ _ _ us hl => match us, hl with | [_, _], _ => rfl, ⟨rfl, rfl, rfl, by decide +kernel, rfl, by decide +kernel, by decide +kernel⟩, rfl, rfl⟩
def f__law_draw : Fn := ⟨2, 2, [(.ifs (.cmp .eq (.blt .len [(.var 0)]) (.lit (.int 0))) [(.ret (some (.lit (.int 0))))] []), (.ret (some (.bin .mod (.blt .int [(.bm (.var 0) .pop [])]) (.var 1))))]⟩
def d__law_draw : Df := ⟨.fn "_law_draw", "_law_draw", "_law_draw", "_law_draw", top 5, (["_law_pool_here", "_law_many"] : List PySem.Str), (["_law_pool_here", "_law_many"] : List PySem.Str), f__law_draw⟩
theorem o__law_draw : DfOk d__law_draw := ⟨fun K f fd F => F.bindsN fun _ _ _ _ _ _ us hl => match us, hl with | [_, _], _ => rfl, ⟨rfl, rfl, rfl, by decide +kernel, rfl, by decide +kernel, by decide +kernel⟩, rfl, rfl⟩
def f__law_leaf : Fn := ⟨2, 5, [(.set 2 (.lit (.str [97, 98, 99, 100, 101, 102, 103, 104, 105, 106, 107, 108, 109, 110, 111, 112, 113, 114, 115, 116, 117, 118, 119, 120, 121, 122, 48, 49, 50, 51, 52, 53, 54, 55, 56, 57]))), (.ifs (.cmp .eq (.bin .mod (.blt .int [(.var 0)]) (.lit (.int 6))) (.lit (.int 0))) [(.ret (some (.idx (.lst [(.lit .none), (.lit (.bool true)), (.lit (.bool false)), (.lit (.int 0)), (.neg (.lit (.int 1))), (.lit (.int 1))]) (.bin .mod (.blt .int [(.var 1)]) (.lit (.int 6))))))] []), (.ifs (.cmp .lt (.bin .mod (.blt .int [(.var 0)]) (.lit (.int 6))) (.lit (.int 3))) [(.ret (some (.bin .mul (.idx (.lst [(.lit (.int 1)), (.neg (.lit (.int 1)))]) (.bin .mod (.blt .int [(.bin .fdiv (.var 0) (.lit (.int 6)))]) (.lit (.int 2)))) (.idx (.lst [(.blt .int [(.var 1)]), (.bin .pow (.blt .int [(.var 1)]) (.lit (.int 3))), (.bin .sub (.bin .sub (.bin .pow (.lit (.int 10)) (.lit (.int 12))) (.lit (.int 1))) (.blt .int [(.var 1)]))]) (.bin .mod (.blt .int [(.bin .fdiv (.var 0) (.lit (.int 12)))]) (.lit (.int 3)))))))] []), (.set 3 (.bin .mod (.blt .int [(.bin .fdiv (.var 0) (.lit (.int 6)))]) (.lit (.int 12)))), (.ret (some (.bin .add (.idx (.var 2) (.bin .mod (.blt .int [(.var 1)]) (.lit (.int 26)))) (.join (.lit (.str [])) (.comp (.idx (.var 2) (.bin .mod (.blt .int [(.bin .add (.var 0) (.bin .mul (.var 1) (.var 4)))]) (.lit (.int 36)))) (.name 4) (.range1 (.var 3)))))))]⟩
def d__law_leaf : Df := ⟨.fn "_law_leaf", "_law_leaf", "_law_leaf", "_law_leaf", top 6, (["_law_one", "_law_two", "_law_letters", "_law_size", "_law_k"] : List PySem.Str), (["_law_one", "_law_two"] : List PySem.Str), f__law_leaf⟩
theorem o__law_leaf : DfOk d__law_leaf := ⟨fun K f fd F => F.bindsN fun _ _ _ _ _ _ us hl => match us, hl with | [_, _], _ => rfl, ⟨rfl, rfl, rfl, by decide +kernel, rfl, by decide +kernel, by decide +kernel⟩, rfl, rfl⟩
def f__law_body : Fn := ⟨1, 4, [(.set 1 (.call "_law_leaf" [(.call "_law_draw" [(.var 0), (.lit (.int 2520))]), (.call "_law_draw" [(.var 0), (.lit (.int 2520))])])), (.set 2 (.call "_law_draw" [(.var 0), (.lit (.int 6))])), (.ifs (.cmp .lt (.var 2) (.lit (.int 3))) [(.ret (some (.var 1)))] []), (.ifs (.cmp .eq (.var 2) (.lit (.int 3))) [(.ret (some (.tup [])))] []), (.set 3 (.call "_law_leaf" [(.call "_law_draw" [(.var 0), (.lit (.int 2520))]), (.call "_law_draw" [(.var 0), (.lit (.int 2520))])])), (.ifs (.cmp .eq (.var 2) (.lit (.int 4))) [(.ret (some (.tup [(.var 1), (.var 3)])))] []), (.ret (some (.tup [(.lit (.str [116, 111, 108, 100])), (.tup [(.lit (.int 1)), (.lit (.int 2))]), (.tup [(.var 1), (.tup [(.var 3), (.tup [])]), (.lit .none)])])))]⟩
def d__law_body : Df := ⟨.fn "_law_body", "_law_body", "_law_body", "_law_body", top 7, (["_law_pool_here", "_law_leaf_here", "_law_way", "_law_other"] : List PySem.Str), (["_law_pool_here"] : List PySem.Str), f__law_body⟩
theorem o__law_body : DfOk d__law_body := ⟨fun K f fd F => F.bindsN fun _ _ _ _ _ _ us hl => match us, hl with | [_], _ => rfl, ⟨rfl, rfl, rfl, by decide +kernel, rfl, by decide +kernel, by decide +kernel⟩, rfl, rfl⟩
def b__law_same_1 : List S := [(.ifs (.bnot (.call "_law_same" [(.idx (.var 0) (.var 2)), (.idx (.var 1) (.var 2))])) [(.ret (some (.lit (.bool false))))] [])]
def f__law_same : Fn := ⟨2, 3, [(.ifs (.isi (.var 1) .tuple) [(.ifs (.bor (.bnot (.isi (.var 0) .tuple)) (.cmp .ne (.blt .len [(.var 0)]) (.blt .len [(.var 1)]))) [(.ret (some (.lit (.bool false))))] []), (.fr (.name 2) (.range1 (.blt .len [(.var 1)])) b__law_same_1), (.ret (some (.lit (.bool true))))] []), (.ifs (.cmp .isn (.var 1) (.lit .none)) [(.ret (some (.cmp .isn (.var 0) (.lit .none))))] []), (.ifs (.isi (.var 1) .bool) [(.ret (some (.band (.isi (.var 0) .bool) (.cmp .eq (.var 0) (.var 1)))))] []), (.ifs (.isi (.var 1) .str) [(.ret (some (.band (.isi (.var 0) .str) (.cmp .eq (.var 0) (.var 1)))))] []), (.ret (some (.band (.isi (.var 0) .int) (.band (.bnot (.isi (.var 0) .bool)) (.cmp .eq (.var 0) (.var 1))))))]⟩
def d__law_same : Df := ⟨.fn "_law_same", "_law_same", "_law_same", "_law_same", top 8, (["_law_told", "_law_due", "_law_k"] : List PySem.Str), (["_law_told", "_law_due"] : List PySem.Str), f__law_same⟩
theorem o__law_same : DfOk d__law_same := ⟨fun K f fd F => F.bindsN fun _ _ _ _ _ _ us hl => match us, hl with | [_, _], _ => rfl, ⟨rfl, rfl, rfl, by decide +kernel, rfl, by decide +kernel, by decide +kernel⟩, rfl, rfl⟩
def b__law_read_1 : List S := [(.ifs (.bor (.bnot (.isi (.var 3) .tuple)) (.bor (.cmp .ne (.blt .len [(.var 3)]) (.lit (.int 2))) (.cmp .gt (.blt .len [(.var 1)]) (.lit (.int 220))))) [(.ret (some (.lit (.bool false))))] []), (.expr (.bm (.var 1) .append [(.tup [(.bin .sub (.lit (.int 1)) (.var 2)), (.idx (.var 3) (.lit (.int 0))), (.idx (.var 3) (.lit (.int 1)))])]))]
def f__law_read : Fn := ⟨3, 4, [(.ifs (.cmp .gt (.blt .len [(.var 1)]) (.lit (.int 150))) [(.ret (some (.lit (.bool true))))] []), (.fr (.name 3) (.own (.idx (.var 0) (.var 2))) b__law_read_1), (.expr (.bm (.var 1) .append [(.tup [(.bin .sub (.lit (.int 1)) (.var 2)), (.lit (.int 0)), (.attr (.idx (.var 0) (.var 2)) "got")])])), (.ret (some (.lit (.bool true))))]⟩
def d__law_read : Df := ⟨.fn "_law_read", "_law_read", "_law_read", "_law_read", top 9, (["_law_lines", "_law_bag", "_law_end", "_law_pair"] : List PySem.Str), (["_law_lines", "_law_bag", "_law_end"] : List PySem.Str), f__law_read⟩
theorem o__law_read : DfOk d__law_read := ⟨fun K f fd F => F.bindsN fun _ _ _ _ _ _ us hl => match us, hl with | [_, _, _], _ => rfl, ⟨rfl, rfl, rfl, by decide +kernel, rfl, by decide +kernel, by decide +kernel⟩, rfl, rfl⟩
def f__law_given : Fn := ⟨4, 8, [(.set 4 (.idx (.var 3) (.lit (.int 0)))), (.ifs (.cmp .eq (.idx (.var 3) (.lit (.int 1))) (.lit (.int 0))) [(.expr (.meth (.idx (.var 0) (.var 4)) "acknowledge" [(.idx (.var 3) (.lit (.int 2)))])), (.ret (some (.lit (.bool true))))] []), (.set 5 (.idx (.var 2) (.var 4))), (.set 6 (.idx (.var 1) (.bin .sub (.lit (.int 1)) (.var 4)))), (.set 7 (.cmp .eq (.idx (.var 3) (.lit (.int 1))) (.bin .add (.blt .len [(.var 5)]) (.lit (.int 1))))), (.ifs (.var 7) [(.ifs (.bor (.cmp .ge (.blt .len [(.var 5)]) (.blt .len [(.var 6)])) (.bnot (.call "_law_same" [(.idx (.var 3) (.lit (.int 2))), (.idx (.var 6) (.blt .len [(.var 5)]))]))) [(.ret (some (.lit (.bool false))))] []), (.expr (.bm (.var 5) .append [(.idx (.var 3) (.lit (.int 2)))]))] []), (.ret (some (.band (.call "_law_same" [(.meth (.idx (.var 0) (.var 4)) "take" [(.idx (.var 3) (.lit (.int 1)))]), (.var 7)]) (.call "_law_same" [(.attr (.idx (.var 0) (.var 4)) "got"), (.blt .len [(.var 5)])]))))]⟩
def d__law_given : Df := ⟨.fn "_law_given", "_law_given", "_law_given", "_law_given", top 10, (["_law_lines", "_law_sent", "_law_taken", "_law_letter", "_law_end", "_law_row", "_law_other", "_law_due"] : List PySem.Str), (["_law_lines", "_law_sent", "_law_taken", "_law_letter"] : List PySem.Str), f__law_given⟩
theorem o__law_given : DfOk d__law_given := ⟨fun K f fd F => F.bindsN fun _ _ _ _ _ _ us hl => match us, hl with | [_, _, _, _], _ => rfl, ⟨rfl, rfl, rfl, by decide +kernel, rfl, by decide +kernel, by decide +kernel⟩, rfl, rfl⟩
def b_law_1 : List S := [(.set 7 (.call "_law_draw" [(.var 1), (.lit (.int 8))])), (.set 8 (.call "_law_draw" [(.var 1), (.lit (.int 2))])), (.ifs (.cmp .lt (.var 7) (.lit (.int 2))) [(.set 9 (.call "_law_body" [(.var 1)])), (.set 10 (.idx (.var 3) (.var 8))), (.expr (.bm (.var 10) .append [(.var 9)])), (.expr (.meth (.idx (.var 2) (.var 8)) "send" [(.var 9)]))] [(.ifs (.cmp .lt (.var 7) (.lit (.int 4))) [(.ifs (.bnot (.call "_law_read" [(.var 2), (.var 5), (.var 8)])) [(.ret (some (.lit (.bool false))))] [])] [(.ifs (.cmp .gt (.blt .len [(.var 5)]) (.lit (.int 0))) [(.set 11 (.bin .mod (.blt .int [(.call "_law_draw" [(.var 1), (.lit (.int 2520))])]) (.blt .len [(.var 5)]))), (.ifs (.band (.cmp .eq (.var 7) (.lit (.int 7))) (.band (.cmp .eq (.call "_law_draw" [(.var 1), (.lit (.int 2))]) (.lit (.int 0))) (.cmp .le (.blt .len [(.var 5)]) (.lit (.int 150))))) [(.expr (.bm (.var 5) .append [(.idx (.var 5) (.var 11))]))] [(.set 12 (.bm (.var 5) .pop [(.var 11)])), (.ifs (.band (.cmp .lt (.var 7) (.lit (.int 7))) (.bnot (.call "_law_given" [(.var 2), (.var 3), (.var 4), (.var 12)]))) [(.ret (some (.lit (.bool false))))] [])])] [])])])]
def b_law_2 : List S := [(.ifs (.bnot (.call "_law_given" [(.var 2), (.var 3), (.var 4), (.var 12)])) [(.ret (some (.lit (.bool false))))] [])]
def b_law_3 : List S := [(.expr (.bm (.var 5) .clear [])), (.ifs (.bor (.bnot (.call "_law_read" [(.var 2), (.var 5), (.lit (.int 0))])) (.bnot (.call "_law_read" [(.var 2), (.var 5), (.lit (.int 1))]))) [(.ret (some (.lit (.bool false))))] []), (.fr (.name 12) (.seq (.blt .list [(.var 5)])) b_law_2)]
def b_law_4 : List S := [(.ifs (.bor (.cmp .ne (.blt .len [(.idx (.var 4) (.var 8))]) (.blt .len [(.idx (.var 3) (.bin .sub (.lit (.int 1)) (.var 8)))])) (.cmp .ne (.lenO (.idx (.var 2) (.var 8))) (.lit (.int 0)))) [(.ret (some (.lit (.bool false))))] [])]
def f_law : Fn := ⟨1, 13, [(.set 1 (.call "_law_pool" [(.var 0), (.lit (.int 700))])), (.set 2 (.lst [(.call "Line" []), (.call "Line" [])])), (.set 3 (.lst [(.lst []), (.lst [])])), (.set 4 (.lst [(.lst []), (.lst [])])), (.set 5 (.lst [])), (.fr (.name 6) (.range1 (.call "_law_draw" [(.var 1), (.lit (.int 71))])) b_law_1), (.fr (.name 6) (.range1 (.lit (.int 2))) b_law_3), (.fr (.name 8) (.range1 (.lit (.int 2))) b_law_4), (.ret (some (.lit (.bool true))))]⟩
def d_law : Df := ⟨.fn "law", "law", "law", "law", top 11, (["_law_script", "_law_pool_here", "_law_lines", "_law_sent", "_law_taken", "_law_bag", "_law_k", "_law_way", "_law_end", "_law_body_here", "_law_row", "_law_at", "_law_letter"] : List PySem.Str), (["_law_script"] : List PySem.Str), f_law⟩
theorem o_law : DfOk d_law := ⟨fun K f fd F => F.bindsN fun _ _ _ _ _ _ us hl => match us, hl with | [_], _ => rfl, ⟨rfl, rfl, rfl, by decide +kernel, rfl, by decide +kernel, by decide +kernel⟩, rfl, rfl⟩
def f_Line_dot___init__ : Fn := ⟨1, 1, [(.setAttr (.var 0) "last" (.lit (.int 0))), (.setAttr (.var 0) "taken" (.lit (.int 0))), (.setAttr (.var 0) "kept" (.lst []))]⟩
def d_Line_dot___init__ : Df := ⟨.mth "Line" "__init__", "Line.__init__", "__init__", "Line.__init__", (clsBody (top 2)).getD 0 (.Pass ⟨0, 0, 0, 0⟩), (["self"] : List PySem.Str), (["self"] : List PySem.Str), f_Line_dot___init__⟩
theorem o_Line_dot___init__ : DfOk d_Line_dot___init__ := ⟨fun K f fd F => F.bindsN fun _ _ _ _ _ _ us hl => match us, hl with | [_], _ => rfl, ⟨rfl, rfl, rfl, by decide +kernel, rfl, by decide +kernel, by decide +kernel⟩, rfl, rfl⟩
def f_Line_dot_sent : Fn := ⟨1, 1, [(.expr (.call "_wall" [(.lit (.int 0))]))]⟩
def d_Line_dot_sent : Df := ⟨.prp "Line" "sent", "Line.sent", "sent", "Line.sent", (clsBody (top 2)).getD 1 (.Pass ⟨0, 0, 0, 0⟩), (["self"] : List PySem.Str), (["self"] : List PySem.Str), f_Line_dot_sent⟩
theorem o_Line_dot_sent : DfOk d_Line_dot_sent := ⟨fun K f fd F => F.bindsN fun _ _ _ _ _ _ us hl => match us, hl with | [_], _ => rfl, ⟨rfl, rfl, rfl, by decide +kernel, rfl, by decide +kernel, by decide +kernel⟩, rfl, rfl⟩
def f_Line_dot_got : Fn := ⟨1, 1, [(.ret (some (.attr (.var 0) "taken")))]⟩
def d_Line_dot_got : Df := ⟨.prp "Line" "got", "Line.got", "got", "Line.got", (clsBody (top 2)).getD 2 (.Pass ⟨0, 0, 0, 0⟩), (["self"] : List PySem.Str), (["self"] : List PySem.Str), f_Line_dot_got⟩
theorem o_Line_dot_got : DfOk d_Line_dot_got := ⟨fun K f fd F => F.bindsN fun _ _ _ _ _ _ us hl => match us, hl with | [_], _ => rfl, ⟨rfl, rfl, rfl, by decide +kernel, rfl, by decide +kernel, by decide +kernel⟩, rfl, rfl⟩
def f_Line_dot_send : Fn := ⟨2, 2, [(.setAttr (.var 0) "last" (.bin .add (.attr (.var 0) "last") (.lit (.int 1)))), (.expr (.bm (.attr (.var 0) "kept") .append [(.tup [(.attr (.var 0) "last"), (.var 1)])])), (.ret (some (.attr (.var 0) "last")))]⟩
def d_Line_dot_send : Df := ⟨.mth "Line" "send", "Line.send", "send", "Line.send", (clsBody (top 2)).getD 3 (.Pass ⟨0, 0, 0, 0⟩), (["self", "body"] : List PySem.Str), (["self", "body"] : List PySem.Str), f_Line_dot_send⟩
theorem o_Line_dot_send : DfOk d_Line_dot_send := ⟨fun K f fd F => F.bindsN fun _ _ _ _ _ _ us hl => match us, hl with | [_, _], _ => rfl, ⟨rfl, rfl, rfl, by decide +kernel, rfl, by decide +kernel, by decide +kernel⟩, rfl, rfl⟩
def f_Line_dot_is_next : Fn := ⟨2, 2, [(.ret (some (.cmp .eq (.var 1) (.bin .add (.attr (.var 0) "taken") (.lit (.int 1))))))]⟩
def d_Line_dot_is_next : Df := ⟨.mth "Line" "is_next", "Line.is_next", "is_next", "Line.is_next", (clsBody (top 2)).getD 4 (.Pass ⟨0, 0, 0, 0⟩), (["self", "number"] : List PySem.Str), (["self", "number"] : List PySem.Str), f_Line_dot_is_next⟩
theorem o_Line_dot_is_next : DfOk d_Line_dot_is_next := ⟨fun K f fd F => F.bindsN fun _ _ _ _ _ _ us hl => match us, hl with | [_, _], _ => rfl, ⟨rfl, rfl, rfl, by decide +kernel, rfl, by decide +kernel, by decide +kernel⟩, rfl, rfl⟩
def f_Line_dot_take : Fn := ⟨2, 2, [(.ifs (.bnot (.meth (.var 0) "is_next" [(.var 1)])) [(.ret (some (.lit (.bool false))))] []), (.setAttr (.var 0) "taken" (.var 1)), (.ret (some (.lit (.bool true))))]⟩
def d_Line_dot_take : Df := ⟨.mth "Line" "take", "Line.take", "take", "Line.take", (clsBody (top 2)).getD 5 (.Pass ⟨0, 0, 0, 0⟩), (["self", "number"] : List PySem.Str), (["self", "number"] : List PySem.Str), f_Line_dot_take⟩
theorem o_Line_dot_take : DfOk d_Line_dot_take := ⟨fun K f fd F => F.bindsN fun _ _ _ _ _ _ us hl => match us, hl with | [_, _], _ => rfl, ⟨rfl, rfl, rfl, by decide +kernel, rfl, by decide +kernel, by decide +kernel⟩, rfl, rfl⟩
def f_Line_dot_keeps_up_to : Fn := ⟨2, 2, [(.ret (some (.band (.cmp .gt (.blt .len [(.attr (.var 0) "kept")]) (.lit (.int 0))) (.cmp .le (.idx (.idx (.attr (.var 0) "kept") (.lit (.int 0))) (.lit (.int 0))) (.var 1)))))]⟩
def d_Line_dot_keeps_up_to : Df := ⟨.mth "Line" "keeps_up_to", "Line.keeps_up_to", "keeps_up_to", "Line.keeps_up_to", (clsBody (top 2)).getD 6 (.Pass ⟨0, 0, 0, 0⟩), (["self", "number"] : List PySem.Str), (["self", "number"] : List PySem.Str), f_Line_dot_keeps_up_to⟩
theorem o_Line_dot_keeps_up_to : DfOk d_Line_dot_keeps_up_to := ⟨fun K f fd F => F.bindsN fun _ _ _ _ _ _ us hl => match us, hl with | [_, _], _ => rfl, ⟨rfl, rfl, rfl, by decide +kernel, rfl, by decide +kernel, by decide +kernel⟩, rfl, rfl⟩
def f_Line_dot_acknowledge : Fn := ⟨2, 4, [(.ifs (.bnot (.meth (.var 0) "keeps_up_to" [(.var 1)])) [(.ret (some (.lit (.bool false))))] []), (.setAttr (.var 0) "kept" (.compIf (.tup [(.var 2), (.var 3)]) (.tup [(.name 2), (.name 3)]) (.seq (.attr (.var 0) "kept")) (.cmp .gt (.var 2) (.var 1)))), (.ret (some (.lit (.bool true))))]⟩
def d_Line_dot_acknowledge : Df := ⟨.mth "Line" "acknowledge", "Line.acknowledge", "acknowledge", "Line.acknowledge", (clsBody (top 2)).getD 7 (.Pass ⟨0, 0, 0, 0⟩), (["self", "number", "other", "body"] : List PySem.Str), (["self", "number"] : List PySem.Str), f_Line_dot_acknowledge⟩
theorem o_Line_dot_acknowledge : DfOk d_Line_dot_acknowledge := ⟨fun K f fd F => F.bindsN fun _ _ _ _ _ _ us hl => match us, hl with | [_, _], _ => rfl, ⟨rfl, rfl, rfl, by decide +kernel, rfl, by decide +kernel, by decide +kernel⟩, rfl, rfl⟩
def f_Line_dot_state : Fn := ⟨1, 1, [(.expr (.call "_wall" [(.lit (.int 1))]))]⟩
def d_Line_dot_state : Df := ⟨.mth "Line" "state", "Line.state", "state", "Line.state", (clsBody (top 2)).getD 8 (.Pass ⟨0, 0, 0, 0⟩), (["self"] : List PySem.Str), (["self"] : List PySem.Str), f_Line_dot_state⟩
theorem o_Line_dot_state : DfOk d_Line_dot_state := ⟨fun K f fd F => F.bindsN fun _ _ _ _ _ _ us hl => match us, hl with | [_], _ => rfl, ⟨rfl, rfl, rfl, by decide +kernel, rfl, by decide +kernel, by decide +kernel⟩, rfl, rfl⟩
def f_Line_dot___iter__ : Fn := ⟨1, 1, [.dead]⟩
def d_Line_dot___iter__ : Df := ⟨.mth "Line" "__iter__", "Line.__iter__", "__iter__", "Line.__iter__", (clsBody (top 2)).getD 10 (.Pass ⟨0, 0, 0, 0⟩), (["self"] : List PySem.Str), (["self"] : List PySem.Str), f_Line_dot___iter__⟩
theorem o_Line_dot___iter__ : DfOk d_Line_dot___iter__ := ⟨fun K f fd F => F.bindsN fun _ _ _ _ _ _ us hl => match us, hl with | [_], _ => rfl, ⟨rfl, rfl, rfl, by decide +kernel, rfl, by decide +kernel, by decide +kernel⟩, rfl, rfl⟩
def f_Line_dot___len__ : Fn := ⟨1, 1, [(.ret (some (.blt .len [(.attr (.var 0) "kept")])))]⟩
def d_Line_dot___len__ : Df := ⟨.mth "Line" "__len__", "Line.__len__", "__len__", "Line.__len__", (clsBody (top 2)).getD 11 (.Pass ⟨0, 0, 0, 0⟩), (["self"] : List PySem.Str), (["self"] : List PySem.Str), f_Line_dot___len__⟩
theorem o_Line_dot___len__ : DfOk d_Line_dot___len__ := ⟨fun K f fd F => F.bindsN fun _ _ _ _ _ _ us hl => match us, hl with | [_], _ => rfl, ⟨rfl, rfl, rfl, by decide +kernel, rfl, by decide +kernel, by decide +kernel⟩, rfl, rfl⟩
def tab : Tab := ⟨[d__wall, d__law_pool, d__law_draw, d__law_leaf, d__law_body, d__law_same, d__law_read, d__law_given, d_law, d_Line_dot___init__, d_Line_dot_sent, d_Line_dot_got, d_Line_dot_send, d_Line_dot_is_next, d_Line_dot_take, d_Line_dot_keeps_up_to, d_Line_dot_acknowledge, d_Line_dot_state, d_Line_dot___iter__, d_Line_dot___len__], [("Line", (["last", "taken", "kept"] : List PySem.Str))], [(("Line", "send"), "Line.send"), (("Line", "is_next"), "Line.is_next"), (("Line", "take"), "Line.take"), (("Line", "keeps_up_to"), "Line.keeps_up_to"), (("Line", "acknowledge"), "Line.acknowledge"), (("Line", "state"), "Line.state"), (("Line", "__iter__"), "Line.__iter__"), (("Line", "__len__"), "Line.__len__")], [(("Line", "sent"), "Line.sent"), (("Line", "got"), "Line.got")], [("Line", "kept")], [], (["abs", "bool", "int", "isinstance", "iter", "len", "list", "min", "range", "str", "tuple"] : List PySem.Str)⟩
abbrev P : Prog := tab.prog
theorem chk : tab.chk = true := by decide +kernel
theorem oks : ∀ d ∈ tab.defs, DfOk d := by
  intro d hd
  simp only [tab, List.mem_cons, List.not_mem_nil, or_false] at hd
  rcases hd with rfl | rfl | rfl | rfl | rfl | rfl | rfl | rfl | rfl | rfl | rfl | rfl | rfl | rfl | rfl | rfl | rfl | rfl | rfl | rfl
  · exact o__wall
  · exact o__law_pool
  · exact o__law_draw
  · exact o__law_leaf
  · exact o__law_body
  · exact o__law_same
  · exact o__law_read
  · exact o__law_given
  · exact o_law
  · exact o_Line_dot___init__
  · exact o_Line_dot_sent
  · exact o_Line_dot_got
  · exact o_Line_dot_send
  · exact o_Line_dot_is_next
  · exact o_Line_dot_take
  · exact o_Line_dot_keeps_up_to
  · exact o_Line_dot_acknowledge
  · exact o_Line_dot_state
  · exact o_Line_dot___iter__
  · exact o_Line_dot___len__
theorem e__wall : P.ent "_wall" = some (.fn f__wall) := by kernel_rfl
theorem e__law_pool : P.ent "_law_pool" = some (.fn f__law_pool) := by kernel_rfl
theorem e__law_draw : P.ent "_law_draw" = some (.fn f__law_draw) := by kernel_rfl
theorem e__law_leaf : P.ent "_law_leaf" = some (.fn f__law_leaf) := by kernel_rfl
theorem e__law_body : P.ent "_law_body" = some (.fn f__law_body) := by kernel_rfl
theorem e__law_same : P.ent "_law_same" = some (.fn f__law_same) := by kernel_rfl
theorem e__law_read : P.ent "_law_read" = some (.fn f__law_read) := by kernel_rfl
theorem e__law_given : P.ent "_law_given" = some (.fn f__law_given) := by kernel_rfl
theorem e_law : P.ent "law" = some (.fn f_law) := by kernel_rfl
theorem e_Line_dot___init__ : P.ent "Line.__init__" = some (.mth f_Line_dot___init__) := by kernel_rfl
theorem e_Line_dot_sent : P.ent "Line.sent" = some (.mth f_Line_dot_sent) := by kernel_rfl
theorem e_Line_dot_got : P.ent "Line.got" = some (.mth f_Line_dot_got) := by kernel_rfl
theorem e_Line_dot_send : P.ent "Line.send" = some (.mth f_Line_dot_send) := by kernel_rfl
theorem e_Line_dot_is_next : P.ent "Line.is_next" = some (.mth f_Line_dot_is_next) := by kernel_rfl
theorem e_Line_dot_take : P.ent "Line.take" = some (.mth f_Line_dot_take) := by kernel_rfl
theorem e_Line_dot_keeps_up_to : P.ent "Line.keeps_up_to" = some (.mth f_Line_dot_keeps_up_to) := by kernel_rfl
theorem e_Line_dot_acknowledge : P.ent "Line.acknowledge" = some (.mth f_Line_dot_acknowledge) := by kernel_rfl
theorem e_Line_dot_state : P.ent "Line.state" = some (.mth f_Line_dot_state) := by kernel_rfl
theorem e_Line_dot___iter__ : P.ent "Line.__iter__" = some (.mth f_Line_dot___iter__) := by kernel_rfl
theorem e_Line_dot___len__ : P.ent "Line.__len__" = some (.mth f_Line_dot___len__) := by kernel_rfl
theorem e_Line : P.ent "Line" = some (.cls "Line.__init__") := by kernel_rfl
end L39

namespace L39
open Py
/-! ### the pool of numbers -/
theorem mul_r {i j : Int} (h : -18446744073709551616 < j ∧ j < 18446744073709551616) : mulOk i j := mulOk_small (.inr h)
theorem mul_l {i j : Int} (h : -18446744073709551616 < i ∧ i < 18446744073709551616) : mulOk i j := mulOk_small (.inl h)
theorem mod_lo (a b : Int) (h : 0 < b := by decide) : 0 ≤ a % b := Int.emod_nonneg _ (by omega)
theorem mod_hi (a b : Int) (h : 0 < b := by decide) : a % b < b := Int.emod_lt_of_pos _ h
def Pl (xs : List Int) : Prop := ∀ x ∈ xs, 0 ≤ x ∧ x < 2520
theorem Pl.snoc {xs : List Int} {x : Int} (h : Pl xs) (h1 : 0 ≤ x) (h2 : x < 2520) : Pl (xs ++ [x]) := fun y hy => by
  rcases List.mem_append.mp hy with hy | hy
  · exact h y hy
  · rw [List.mem_singleton.mp hy]; exact ⟨h1, h2⟩
theorem len_ints {m : Mem} {k : Nat} {xs : List Int} (h : m.list k = some (xs.map .int)) : bltop .len [.ref k] m = .ok (.int xs.length) m := len_list h (by rw [List.length_map])
theorem pool_in (C : Calls) (m : Mem) (ns : List Int) (many tot cell rest : Int) (x6 x7 x8 : Option Val) (xs : List Int) (n : Nat) (hn : n ≤ 60) (hl : xs.length < 100000) (hp : Pl xs) :
    ∃ l' m', forLoop none (.name 6) (execB P C b__law_pool_1) ((List.range n).map fun (i : Nat) => .int i) [some (.fro ns), some (.int many), some (.ref m.length), some (.int tot), some (.int cell), some (.int rest), x6, x7, x8] (m ++ [.list (xs.map .int)]) = .nx l' m' ∧
    ∃ (rest : Int) (x6 : Option Val) (ys : List Int), l' = [some (.fro ns), some (.int many), some (.ref m.length), some (.int tot), some (.int cell), some (.int rest), x6, x7, x8] ∧ m' = m ++ [.list (ys.map .int)] ∧ Pl ys ∧ ys.length ≤ xs.length + 60 := by
  have := for_brk (chk := none) (t := .name 6) (b := execB P C b__law_pool_1) (xs := (List.range n).map fun (i : Nat) => .int i)
    (fun i l m' => i ≤ n ∧ ∃ (rest : Int) (x6 : Option Val) (ys : List Int), l = [some (.fro ns), some (.int many), some (.ref m.length), some (.int tot), some (.int cell), some (.int rest), x6, x7, x8] ∧ m' = m ++ [.list (ys.map .int)] ∧ Pl ys ∧ ys.length ≤ xs.length + i)
    (fun l m' => ∃ (rest : Int) (x6 : Option Val) (ys : List Int), l = [some (.fro ns), some (.int many), some (.ref m.length), some (.int tot), some (.int cell), some (.int rest), x6, x7, x8] ∧ m' = m ++ [.list (ys.map .int)] ∧ Pl ys ∧ ys.length ≤ xs.length + 60)
    (fun _ _ _ _ => still_none _) (fun i x l m' hx hi => ?_) (l := [some (.fro ns), some (.int many), some (.ref m.length), some (.int tot), some (.int cell), some (.int rest), x6, x7, x8]) (m := m ++ [.list (xs.map .int)]) ⟨Nat.zero_le _, rest, x6, xs, rfl, rfl, hp, Nat.le_refl _⟩
  · obtain ⟨l', m', e, q | q⟩ := this
    · obtain ⟨_, rest, x6, ys, a, b, c, d⟩ := q
      exact ⟨l', m', e, rest, x6, ys, a, b, c, by rw [List.length_map, List.length_range] at d; omega⟩
    · exact ⟨l', m', e, q⟩
  · obtain ⟨hin, ex⟩ := rng_get hx
    obtain ⟨_, r, x6, ys, el, em, hd, hy⟩ := hi
    obtain ⟨k, ek⟩ : ∃ k : Int, x = .int k := ⟨_, ex⟩
    subst el em ek
    refine ⟨_, asg_name _ _ _ _, ?_⟩
    have hs : (ys.map Val.int).length < SZ := by rw [List.length_map]; unfold SZ; omega
    cases h0 : (r.fdiv 2520 == 0) with
    | true =>
      refine Flow.byB (by simp [b__law_pool_1, recv_list (mem_new _ _), bm_app (mem_new _ _) hs, op_modI, op_divI (show divOk 2520 by decide), h0] <;> rfl) ?_
      exact ⟨r.fdiv 2520, _, ys ++ [r % 2520], rfl, by simp, hd.snoc (mod_lo _ _) (mod_hi _ _), by simp; omega⟩
    | false =>
      refine Flow.byB (by simp [b__law_pool_1, recv_list (mem_new _ _), bm_app (mem_new _ _) hs, op_modI, op_divI (show divOk 2520 by decide), h0] <;> rfl) ?_
      exact ⟨hin, r.fdiv 2520, _, ys ++ [r % 2520], rfl, by simp, hd.snoc (mod_lo _ _) (mod_hi _ _), by simp; omega⟩
theorem pool_out (C : Calls) (m : Mem) (ns : List Int) (many : Int) (hm : 0 ≤ many ∧ many < 10000) (hns : ns.length ≤ 63) :
    ∃ l' m', forLoop none (.name 4) (execB P C b__law_pool_2) (ns.map .int) [some (.fro ns), some (.int many), some (.ref m.length), some (.int 1), none, none, none, none, none] (m ++ [.list []]) = .nx l' m' ∧
    ∃ (tot : Int) (x4 x5 x6 x7 x8 : Option Val) (ys : List Int), l' = [some (.fro ns), some (.int many), some (.ref m.length), some (.int tot), x4, x5, x6, x7, x8] ∧ m' = m ++ [.list (ys.map .int)] ∧ Pl ys ∧ ys.length ≤ 3780 := by
  have := for_all (chk := none) (t := .name 4) (b := execB P C b__law_pool_2) (xs := ns.map Val.int)
    (fun i l m' => i ≤ ns.length ∧ ∃ (tot : Int) (x4 x5 x6 x7 x8 : Option Val) (ys : List Int), l = [some (.fro ns), some (.int many), some (.ref m.length), some (.int tot), x4, x5, x6, x7, x8] ∧ m' = m ++ [.list (ys.map .int)] ∧ Pl ys ∧ ys.length ≤ 60 * i)
    (fun _ _ _ _ => still_none _) (fun i x l m' hx hi => ?_) (l := [some (.fro ns), some (.int many), some (.ref m.length), some (.int 1), none, none, none, none, none]) (m := m ++ [.list []]) ⟨Nat.zero_le _, 1, _, _, _, _, _, [], rfl, rfl, (fun x hx => by cases hx), Nat.le_refl _⟩
  · obtain ⟨l', m', e, _, tot, x4, x5, x6, x7, x8, ys, a, b, c, d⟩ := this
    exact ⟨l', m', e, tot, x4, x5, x6, x7, x8, ys, a, b, c, by rw [List.length_map] at d; omega⟩
  · have hil : i < ns.length := by have := (List.getElem?_eq_some_iff.mp hx).1; rwa [List.length_map] at this
    obtain ⟨_, tot, x4, x5, x6, x7, x8, ys, el, em, hd, hy⟩ := hi
    obtain ⟨c, ek⟩ : ∃ k : Int, x = .int k := by
      rw [List.getElem?_map] at hx
      obtain ⟨y, _, e⟩ := Option.map_eq_some_iff.mp hx
      exact ⟨y, e.symm⟩
    subst el em ek
    refine ⟨_, asg_name _ _ _ _, ?_⟩
    have hs : (ys.map Val.int).length < SZ := by rw [List.length_map]; unfold SZ; omega
    have hlen := len_ints (mem_new m (ys.map .int))
    have hyl : (ys.length : Int) ≤ 3780 := by omega
    have hyl0 : (0 : Int) ≤ ys.length := by omega
    generalize (ys.length : Int) = yl at hlen hyl hyl0
    have M1 := fun i => mul_r (i := i) (j := 48271) (by decide)
    have M2 := fun i => mul_r (i := i) (j := 69621) (by decide)
    have M3 := fun i => mul_r (i := i) (j := 16807) (by decide)
    have M4 := fun i => mul_r (i := i) (j := 263) (by decide)
    have S1 : ∀ y : Int, mulOk (y % 2147483647) (y % 2147483647) := fun y => mul_l (by have := mod_lo y 2147483647; have := mod_hi y 2147483647; omega)
    have pw : ∀ m, binop .pow (.int 10) (.int 18) m = .ok (.int 1000000000000000000) m := fun m => by rw [op_powL (by decide)]; rfl
    obtain ⟨a, ha⟩ : ∃ a : Int, ∀ m, bltop .abs [.int c] m = .ok (.int a) m := ⟨_, fun m => blt_abs _ _⟩
    cases h0 : decide ((1000000000000000000 : Int) ≤ a) with
    | true =>
      obtain ⟨q, hq, q1, q2⟩ : ∃ q : Int, (∀ m, bltop .min [.int 60, .int (many - yl)] m = .ok (.int q) m) ∧ q ≤ 60 ∧ -10000 ≤ q := ⟨_, fun m => blt_min _ _ _, by split <;> omega, by split <;> omega⟩
      have hj : -4611686018427387904 ≤ q ∧ q < 4611686018427387904 := by omega
      obtain ⟨l', m', e, r', y6, zs, el, em, hz, hzl⟩ := pool_in C m ns many tot c a x6 x7 x8 ys q.toNat (by omega) (by omega) hd
      subst el em
      refine Flow.by (by simp [b__law_pool_2, ha, h0, pw, hlen, hq, hj, e, M4, op_mulI, op_modI, -blt_abs, -blt_min] <;> rfl) ?_
      exact Flow.nx_of ⟨hil, _, _, _, _, _, _, zs, rfl, rfl, hz, by omega⟩
    | false =>
      have hs2 : ∀ v : Val, (ys.map Val.int ++ [v]).length < SZ := fun v => by rw [List.length_append, List.length_map]; show ys.length + 1 < _; unfold SZ; omega
      refine Flow.by (by simp [b__law_pool_2, ha, h0, pw, hlen, M1, M2, M3, M4, S1, op_mulI, op_modI, op_divI (show divOk 7 by decide), recv_list (mem_new _ _), bm_app (mem_new _ _) hs, bm_app (mem_new _ _) (hs2 _), -blt_abs] <;> rfl) ?_
      refine Flow.nx_of ⟨hil, _, _, _, _, _, _, ys ++ [_] ++ [_], rfl, by simp; exact ⟨rfl, rfl⟩, (hd.snoc (mod_lo _ _) (mod_hi _ _)).snoc (mod_lo _ _) (mod_hi _ _), by simp; omega⟩
theorem pool_last (C : Calls) (m : Mem) (ns : List Int) (many tot : Int) (x4 x5 x6 x7 x8 : Option Val) (xs : List Int) (n : Nat) (hn : n < 10000) (hl : xs.length ≤ 3780) (hp : Pl xs) :
    ∃ l' m', forLoop none (.name 6) (execB P C b__law_pool_3) ((List.range n).map fun (i : Nat) => .int i) [some (.fro ns), some (.int many), some (.ref m.length), some (.int tot), x4, x5, x6, x7, x8] (m ++ [.list (xs.map .int)]) = .nx l' m' ∧
    ∃ (tot : Int) (x6 : Option Val) (ys : List Int), l' = [some (.fro ns), some (.int many), some (.ref m.length), some (.int tot), x4, x5, x6, x7, x8] ∧ m' = m ++ [.list (ys.map .int)] ∧ Pl ys ∧ n ≤ ys.length ∧ ys.length ≤ 20000 := by
  have := for_all (chk := none) (t := .name 6) (b := execB P C b__law_pool_3) (xs := (List.range n).map fun (i : Nat) => .int i)
    (fun i l m' => i ≤ n ∧ ∃ (tot : Int) (x6 : Option Val) (ys : List Int), l = [some (.fro ns), some (.int many), some (.ref m.length), some (.int tot), x4, x5, x6, x7, x8] ∧ m' = m ++ [.list (ys.map .int)] ∧ Pl ys ∧ ys.length = xs.length + i)
    (fun _ _ _ _ => still_none _) (fun i x l m' hx hi => ?_) (l := [some (.fro ns), some (.int many), some (.ref m.length), some (.int tot), x4, x5, x6, x7, x8]) (m := m ++ [.list (xs.map .int)]) ⟨Nat.zero_le _, tot, x6, xs, rfl, rfl, hp, rfl⟩
  · obtain ⟨l', m', e, _, tot, x6, ys, a, b, c, d⟩ := this
    rw [List.length_map, List.length_range] at d
    exact ⟨l', m', e, tot, x6, ys, a, b, c, by omega, by omega⟩
  · obtain ⟨hin, ex⟩ := rng_get hx
    obtain ⟨_, tot, x6, ys, el, em, hd, hy⟩ := hi
    obtain ⟨k, ek⟩ : ∃ k : Int, x = .int k := ⟨_, ex⟩
    subst el em ek
    refine ⟨_, asg_name _ _ _ _, ?_⟩
    have hs : (ys.map Val.int).length < SZ := by rw [List.length_map]; unfold SZ; omega
    have M1 := fun i => mul_r (i := i) (j := 48271) (by decide)
    have M2 := fun i => mul_r (i := i) (j := 69621) (by decide)
    refine Flow.by (by simp [b__law_pool_3, recv_list (mem_new _ _), bm_app (mem_new _ _) hs, op_mulI, M1, M2, op_modI, op_divI (show divOk 5 by decide)] <;> rfl) ?_
    exact Flow.nx_of ⟨hin, _, _, ys ++ [_], rfl, by simp; rfl, hd.snoc (mod_lo _ _) (mod_hi _ _), by simp; omega⟩
theorem Pl.sub {xs ys : List Int} (h : Pl xs) (s : ∀ y ∈ ys, y ∈ xs) : Pl ys := fun y hy => h y (s y hy)
theorem run_pool (d : Nat) (m : Mem) (ns : List Int) (many : Int) (hm : 0 ≤ many ∧ many < 10000) (hns : ns.length ≤ 63) : ∃ xs, Pl xs ∧ (xs.length : Int) = many ∧ callN P (d + 1) "_law_pool" [.fro ns, .int many] m = .ok (.ref m.length) (m ++ [.list (xs.map .int)]) := by
  rw [callN_fn e__law_pool rfl]
  obtain ⟨l1, m1, e1, tot, x4, x5, x6, x7, x8, ys, el1, em1, hp1, hl1⟩ := pool_out (callN P d) m ns many hm hns
  subst el1 em1
  obtain ⟨l2, m2, e2, tot2, x62, zs, el2, em2, hp2, hl2, hl3⟩ := pool_last (callN P d) m ns many tot x4 x5 x6 x7 x8 ys many.toNat (by omega) hl1 hp1
  subst el2
  have hr : m2.list m.length = some (zs.map .int) := by rw [em2]; simp
  have hj : -4611686018427387904 ≤ many ∧ many < 4611686018427387904 := by omega
  have hs : 0 ≤ SZ := Nat.zero_le _
  have hcut : cut (zs.map Val.int) none (some many) = (zs.take many.toNat).map Val.int := by
    have h0 : ¬ many < 0 := by omega
    simp [cut, cutIx, h0, List.map_take, Nat.min_eq_left hl2]
  refine ⟨(zs.take many.toNat).reverse, hp2.sub fun y hy => List.mem_of_mem_take (List.mem_reverse.mp hy), by rw [List.length_reverse, List.length_take]; omega, ?_⟩
  have ex : execB P (callN P d) f__law_pool.body (start f__law_pool.ns [.fro ns, .int many]) m = .ret (.ref m2.length) (m2 ++ [.list ((zs.take many.toNat).reverse.map .int)]) := by
    simp [f__law_pool, start, hs, e1, hj, e2, sliceop, hr, hcut, recv_list (mem_new _ _), bmop]
  rw [ex, em2]
  show gc m (.ok _ _) = _
  rw [List.append_assoc]
  exact gc_ref (o := .list ((zs.take many.toNat).reverse.map .int)) (by simp) (by simp) (by rw [ob_under]; exact underL_ints _ _)
theorem Pl.init {xs : List Int} (h : Pl xs) : Pl xs.dropLast := h.sub fun y hy => List.dropLast_subset _ hy
/-- a number is drawn -/
theorem run_draw (d : Nat) {m : Mem} {r : Nat} {xs : List Int} {many : Int} (hr : m.list r = some (xs.map .int)) (hp : Pl xs) (hm : 0 < many) :
    ∃ (y : Int) (ys : List Int), 0 ≤ y ∧ y < many ∧ Pl ys ∧ callN P (d + 1) "_law_draw" [.ref r, .int many] m = .ok (.int y) (m.set r (.list (ys.map .int))) := by
  rw [callN_fn e__law_draw rfl]
  have hlen := len_ints hr
  cases xs with
  | nil =>
    refine ⟨0, [], Int.le_refl _, hm, hp, ?_⟩
    have e : m.set r (.list (([] : List Int).map .int)) = m := by
      have h := get_of_list hr
      obtain ⟨hl, q⟩ := List.getElem?_eq_some_iff.mp h
      rw [← q, List.set_getElem_self]
    rw [e]
    simp [f__law_draw, start, hlen]
  | cons x xs =>
    have hl : ((x :: xs).length : Int) ≠ 0 := by simp; omega
    generalize ((x :: xs).length : Int) = n at hlen hl
    have hn : (n == 0) = false := beq_eq_false_iff_ne.mpr hl
    obtain ⟨z, hz⟩ : ∃ z : Int, ((x :: xs).map Val.int)[((x :: xs).map Val.int).length - 1]? = some (.int z) := by
      rw [List.getElem?_map]
      have : ((x :: xs).map Val.int).length - 1 < (x :: xs).length := by simp
      rw [List.getElem?_eq_getElem this]
      exact ⟨_, rfl⟩
    have hpop : bmop .pop (.ref r) [] m = .ok (.int z) (m.set r (.list ((x :: xs).dropLast.map .int))) := by
      unfold bmop
      simp only [hr, hz]
      rw [List.map_dropLast]
    refine ⟨z % many, (x :: xs).dropLast, mod_lo _ _ hm, mod_hi _ _ hm, hp.init, ?_⟩
    have hg : ∀ z : Int, gc m (.ok (.int z) (m.set r (.list ((x :: xs).dropLast.map .int)))) = .ok (.int z) (m.set r (.list ((x :: xs).dropLast.map .int))) := fun z => gc_set0 (list_lt hr) (by rw [ob_under]; exact underL_ints _ _) (by simp)
    simp only [f__law_draw, start]
    simp [hlen, hn, recv_list hr, hpop, op_modI hm, -List.map_dropLast, hg]

/-! ### data, compared through and through -/
mutual
def okk : Val → Bool
  | .none => true
  | .bool _ => true
  | .int _ => true
  | .str _ => true
  | .tup xs => decide (xs.length < 1000000) && okkL xs
  | .fro _ => false
  | .ref _ => false
def okkL : List Val → Bool
  | [] => true
  | x :: xs => okk x && okkL xs
end
theorem okkL_mem : ∀ {xs : List Val} {x : Val}, okkL xs = true → x ∈ xs → okk x = true
  | [], _, _, h => by cases h
  | y :: ys, x, h, hx => by
    unfold okkL at h
    rw [Bool.and_eq_true] at h
    rcases List.mem_cons.mp hx with e | e
    · rw [e]; exact h.1
    · exact okkL_mem h.2 e
theorem okkL_all : ∀ {xs : List Val}, (∀ x ∈ xs, okk x = true) → okkL xs = true
  | [], _ => by unfold okkL; rfl
  | y :: ys, h => by
    unfold okkL
    rw [h y List.mem_cons_self, okkL_all fun x hx => h x (List.mem_cons_of_mem _ hx)]; rfl
mutual
theorem okk_under (n : Nat) : ∀ {v : Val}, okk v = true → v.under n = true
  | .none, _ => by simp
  | .bool _, _ => by simp
  | .int _, _ => by simp
  | .str _, _ => by simp
  | .tup xs, h => by
    unfold okk at h
    rw [Bool.and_eq_true] at h
    rw [under_tup]; exact okkL_under n h.2
  | .fro _, h => by unfold okk at h; cases h
  | .ref _, h => by unfold okk at h; cases h
theorem okkL_under (n : Nat) : ∀ {v : List Val}, okkL v = true → Val.underL n v = true
  | [], _ => by simp
  | x :: xs, h => by
    unfold okkL at h
    rw [Bool.and_eq_true] at h
    rw [underL_cons, okk_under n h.1, okkL_under n h.2]; rfl
end
theorem depth_mem : ∀ {xs : List Val} {x : Val}, x ∈ xs → x.depth ≤ Val.depthL xs
  | [], _, h => by cases h
  | y :: ys, x, h => by
    rw [dpL_cons]
    rcases List.mem_cons.mp h with e | e
    · rw [e]; exact Nat.le_max_left _ _
    · exact Nat.le_trans (depth_mem e) (Nat.le_max_right _ _)
theorem run_same : ∀ (d : Nat) (v : Val) (m : Mem), okk v = true → v.depth < d → callN P d "_law_same" [v, v] m = .ok (.bool true) m
  | 0, v, m, h, hd => absurd hd (Nat.not_lt_zero _)
  | d + 1, v, m, h, hd => by
    rw [callN_fn e__law_same rfl]
    cases v with
    | none => simp [f__law_same, start, tyOf, isiK, cmpop, Val.isNone]
    | bool b => simp [f__law_same, start, tyOf, isiK, cmpop, Val.isNone, eqop, Val.eqv]
    | int i => simp [f__law_same, start, tyOf, isiK, cmpop, Val.isNone, eqop, Val.eqv]
    | str s => simp [f__law_same, start, tyOf, isiK, cmpop, Val.isNone, eqop, Val.eqv]
    | fro _ => unfold okk at h; cases h
    | ref _ => unfold okk at h; cases h
    | tup xs =>
      unfold okk at h
      rw [Bool.and_eq_true] at h
      obtain ⟨h1, h2⟩ := h
      have h1 := of_decide_eq_true h1
      rw [dp_tup] at hd
      obtain ⟨n, en⟩ : ∃ n : Int, n = xs.length := ⟨_, rfl⟩
      have hl : ∀ m, bltop .len [.tup xs] m = .ok (.int n) m := fun m => by rw [en]; rfl
      have hj : -4611686018427387904 ≤ n ∧ n < 4611686018427387904 := by omega
      obtain ⟨l', m', e, hi, x2, el, em⟩ := for_all (chk := none) (t := .name 2) (b := execB P (callN P d) b__law_same_1) (xs := (List.range n.toNat).map fun (i : Nat) => .int i)
        (fun i l m' => i ≤ n.toNat ∧ ∃ (x2 : Option Val), l = [some (.tup xs), some (.tup xs), x2] ∧ m' = m)
        (fun _ _ _ _ => still_none _) (fun i x l m' hx hi => by
          obtain ⟨hin, ex⟩ := rng_get hx
          obtain ⟨_, x2, el, em⟩ := hi
          obtain ⟨k, ek, k0, k1⟩ : ∃ k : Int, x = .int k ∧ 0 ≤ k ∧ k.toNat < xs.length := ⟨_, ex, by omega, by omega⟩
          subst el em ek
          refine ⟨_, asg_name _ _ _ _, ?_⟩
          have hx := at_nat k0 k1
          have hm : xs[k.toNat] ∈ xs := List.getElem_mem k1
          have IH := run_same d xs[k.toNat] m' (okkL_mem h2 hm) (by have := depth_mem hm; omega)
          generalize xs[k.toNat] = y at hx IH
          have hix : idxop m' (.tup xs) (.int k) = some y := hx
          refine Flow.by (by simp [b__law_same_1, hix, IH] <;> rfl) ?_
          exact Flow.nx_of ⟨hin, _, rfl, rfl⟩) (l := [some (.tup xs), some (.tup xs), none]) (m := m) ⟨Nat.zero_le _, none, rfl, rfl⟩
      subst el em
      simp [f__law_same, start, tyOf, isiK, hl, hj, e]

end L39

namespace L39
open Py
/-! ### leaves, bodies -/
def Leaf (v : Val) : Prop := okk v = true ∧ v.depth = 0
def LET : List Nat := [97, 98, 99, 100, 101, 102, 103, 104, 105, 106, 107, 108, 109, 110, 111, 112, 113, 114, 115, 116, 117, 118, 119, 120, 121, 122, 48, 49, 50, 51, 52, 53, 54, 55, 56, 57]
theorem let_at (m : Mem) {k : Int} (h0 : 0 ≤ k) (h1 : k < 36) : ∃ c, idxop m (.str LET) (.int k) = some (.str [c]) := by
  refine ⟨LET[k.toNat]'(by show k.toNat < 36; omega), ?_⟩
  have e : idxop m (.str LET) (.int k) = if LET.length ≤ SZ then (atIx LET k).map fun c => Val.str [c] else none := rfl
  rw [e, if_pos (by decide), at_nat h0 (by show k.toNat < 36; omega)]
  rfl
theorem joinL_one : ∀ cs : List Nat, joinL [] (cs.map fun c => [c]) = cs
  | [] => rfl
  | [c] => rfl
  | c :: d :: r => by
    have := joinL_one (d :: r)
    simp only [List.map_cons] at this ⊢
    unfold joinL
    rw [this]; rfl
theorem strs_one : ∀ cs : List Nat, strsOf (cs.map fun c => .str [c]) = some (cs.map fun c => [c])
  | [] => rfl
  | c :: r => by simp [strsOf, strs_one r]
theorem sum_one : ∀ cs : List Nat, ((cs.map fun c => [c]).map List.length).sum = cs.length
  | [] => rfl
  | c :: r => by
    have := sum_one r
    simp only [List.map_cons, List.sum_cons, List.length_cons, List.length_nil] at this ⊢
    omega
/-- a word of letters that are picked -/
theorem letters (C : Calls) (m : Mem) (a b : Int) (l : Loc) (e : E) (n : Nat) (g : Int → Nat) (hn : n < 1000) (he : ∀ k : Int, 0 ≤ k → k < n → evalE P C e (l.set 4 (some (.int k))) m = .ok (.str [g k]) m) (hl : ∀ v, (l.set 4 none).set 4 v = l.set 4 v) :
    compLoop none (compEl (.name 4) l (evalE P C e)) ((List.range n).map fun (i : Nat) => .int i) m = .ok (((List.range n).map fun (i : Nat) => g i).map fun c => .str [c]) m := by
  rw [comp_pure (fun x => match x with
    | .int i => some (.str [g i])
    | _ => none) (still_none _) fun x hx => ?_]
  · congr 1
    rw [List.filterMap_map, List.map_map]
    show List.filterMap (some ∘ fun (i : Nat) => Val.str [g i]) (List.range n) = _
    rw [List.filterMap_eq_map]
    rfl
  · obtain ⟨i, hi, ex⟩ := List.mem_map.mp hx
    have hi : i < n := by simpa using hi
    obtain ⟨k, ek, k0, k1⟩ : ∃ k : Int, x = .int k ∧ 0 ≤ k ∧ k < n := ⟨i, ex.symm, by omega, by omega⟩
    subst ek
    have h := he k k0 k1
    simp [compEl, Tg.slots, wipeL, h]
theorem run_leaf (d : Nat) (m : Mem) (a b : Int) (ha : 0 ≤ a ∧ a < 2520) (hb : 0 ≤ b ∧ b < 2520) : ∃ v, Leaf v ∧ callN P (d + 1) "_law_leaf" [.int a, .int b] m = .ok v m := by
  rw [callN_fn e__law_leaf rfl]
  have hs6 : 6 ≤ SZ := by decide
  have hs2 : 2 ≤ SZ := by decide
  have hs3 : 3 ≤ SZ := by decide
  have fin : ∀ (v : Val) (g : Mem), Leaf v → gc m (.ok v (m ++ g)) = .ok v m := fun v g h => gc_app (okk_under _ h.1)
  cases h0 : (a % 6 == 0) with
  | true =>
    have k0 := mod_lo b 6
    have k1 := mod_hi b 6
    obtain ⟨v, hv, e⟩ : ∃ v, Leaf v ∧ idxop (m ++ [.list [.none, .bool true, .bool false, .int 0, .int (-1), .int 1]]) (.ref m.length) (.int (b % 6)) = some v := by
      have hx := at_nat (xs := [Val.none, .bool true, .bool false, .int 0, .int (-1), .int 1]) k0 (by show _ < 6; omega)
      refine ⟨_, ?_, by rw [idx_list (mem_new _ _)]; exact hx⟩
      have : ∀ v ∈ [Val.none, .bool true, .bool false, .int 0, .int (-1), .int 1], Leaf v := fun v hv => by
        simp only [List.mem_cons, List.not_mem_nil, or_false] at hv
        rcases hv with h | h | h | h | h | h <;> subst h <;> exact ⟨rfl, by simp⟩
      exact this _ (List.getElem_mem _)
    refine ⟨v, hv, ?_⟩
    have ex : execB P (callN P d) f__law_leaf.body (start f__law_leaf.ns [.int a, .int b]) m = .ret v (m ++ [.list [.none, .bool true, .bool false, .int 0, .int (-1), .int 1]]) := by
      simp [f__law_leaf, start, op_modI, h0, hs6, e]
    rw [ex]
    exact fin v _ hv
  | false =>
    cases h1 : decide (a % 6 < 3) with
    | true =>
      have k0 := mod_lo (a.fdiv 6) 2
      have k1 := mod_hi (a.fdiv 6) 2
      have j0 := mod_lo (a.fdiv 12) 3
      have j1 := mod_hi (a.fdiv 12) 3
      obtain ⟨s, hs, es⟩ : ∃ s : Int, (s = 1 ∨ s = -1) ∧ ∀ m g, idxop (m ++ .list [.int 1, .int (-1)] :: g) (.ref m.length) (.int ((a.fdiv 6) % 2)) = some (.int s) := by
        have hx := at_nat (xs := [Val.int 1, .int (-1)]) k0 (by show _ < 2; omega)
        obtain ⟨s, e1, e2⟩ : ∃ s : Int, [Val.int 1, .int (-1)][((a.fdiv 6) % 2).toNat]'(by show _ < 2; omega) = .int s ∧ (s = 1 ∨ s = -1) := by
          have : ∀ v ∈ [Val.int 1, .int (-1)], ∃ s : Int, v = .int s ∧ (s = 1 ∨ s = -1) := fun v hv => by
            simp only [List.mem_cons, List.not_mem_nil, or_false] at hv
            rcases hv with h | h <;> subst h
            · exact ⟨1, rfl, .inl rfl⟩
            · exact ⟨-1, rfl, .inr rfl⟩
          exact this _ (List.getElem_mem _)
        exact ⟨s, e2, fun m g => by rw [idx_list (mem_newg _ _ _), hx, e1]⟩
      obtain ⟨t, et⟩ : ∃ t : Int, ∀ m g, idxop (m ++ .list [.int b, .int (b ^ 3), .int (999999999999 - b)] :: g) (.ref m.length) (.int ((a.fdiv 12) % 3)) = some (.int t) := by
        have hx := at_nat (xs := [Val.int b, .int (b ^ 3), .int (999999999999 - b)]) j0 (by show _ < 3; omega)
        obtain ⟨s, e1⟩ : ∃ s : Int, [Val.int b, .int (b ^ 3), .int (999999999999 - b)][((a.fdiv 12) % 3).toNat]'(by show _ < 3; omega) = .int s := by
          have : ∀ v ∈ [Val.int b, .int (b ^ 3), .int (999999999999 - b)], ∃ s : Int, v = .int s := fun v hv => by
            simp only [List.mem_cons, List.not_mem_nil, or_false] at hv
            rcases hv with h | h | h <;> exact ⟨_, h⟩
          exact this _ (List.getElem_mem _)
        exact ⟨s, fun m g => by rw [idx_list (mem_newg _ _ _), hx, e1]⟩
      have hm : mulOk s t := mul_l (by omega)
      have pw : ∀ m, binop .pow (.int 10) (.int 12) m = .ok (.int 1000000000000) m := fun m => by rw [op_powL (by decide)]; rfl
      have p3 : ∀ m, binop .pow (.int b) (.int 3) m = .ok (.int (b ^ 3)) m := fun m => by rw [op_powI (by unfold powOk; omega)]; rfl
      obtain ⟨m1, em1⟩ : ∃ m1, m1 = m ++ [.list [.int 1, .int (-1)]] := ⟨_, rfl⟩
      have es' : idxop m1 (.ref m.length) (.int ((a.fdiv 6) % 2)) = some (.int s) := by rw [em1]; exact es m []
      have et' := et m1 []
      refine ⟨.int (s * t), ⟨rfl, by simp⟩, ?_⟩
      have ex : execB P (callN P d) f__law_leaf.body (start f__law_leaf.ns [.int a, .int b]) m = .ret (.int (s * t)) (m1 ++ [.list [.int b, .int (b ^ 3), .int (999999999999 - b)]]) := by
        have h1' : a % 6 < 3 := of_decide_eq_true h1
        simp [f__law_leaf, start, op_modI, h0, h1', hs2, hs3, ← em1, es', op_divI (show divOk 6 by decide), op_divI (show divOk 12 by decide), pw, p3, et', op_mulI hm]
      rw [ex, em1, List.append_assoc]
      exact fin _ _ ⟨rfl, by simp⟩
    | false =>
      obtain ⟨n, en, n0, n1⟩ : ∃ n : Int, n = a.fdiv 6 % 12 ∧ 0 ≤ n ∧ n < 12 := ⟨_, rfl, mod_lo _ _, mod_hi _ _⟩
      obtain ⟨c0, e0⟩ := let_at m (mod_lo b 26) (by have := mod_hi b 26; omega)
      have hg : ∀ k : Int, ∃ c, ∀ m, idxop m (.str LET) (.int ((a + b * k) % 36)) = some (.str [c]) := fun k => by
        obtain ⟨c, e⟩ := let_at m (mod_lo (a + b * k) 36) (mod_hi (a + b * k) 36)
        exact ⟨c, fun m' => e⟩
      obtain ⟨g, hg⟩ := Classical.axiomOfChoice hg
      have hj : -4611686018427387904 ≤ n ∧ n < 4611686018427387904 := by omega
      have lt := letters (callN P d) m a b [some (.int a), some (.int b), some (.str LET), some (.int n), none] (.idx (.var 2) (.bin .mod (.blt .int [(.bin .add (.var 0) (.bin .mul (.var 1) (.var 4)))]) (.lit (.int 36)))) n.toNat g (by omega)
        (fun k k0 k1 => by
          have M : mulOk b k := mul_l (by omega)
          simp [op_mulI M, op_modI, hg]) (fun v => rfl)
      refine ⟨.str (c0 :: (List.range n.toNat).map fun (i : Nat) => g i), ⟨rfl, by simp⟩, ?_⟩
      have ex : execB P (callN P d) f__law_leaf.body (start f__law_leaf.ns [.int a, .int b]) m = .ret (.str (c0 :: (List.range n.toNat).map fun (i : Nat) => g i)) m := by
        have h1' : ¬ a % 6 < 3 := of_decide_eq_false h1
        have hcs : ((List.range n.toNat).map fun (i : Nat) => g (i : Int)).length ≤ 12 := by simp; omega
        generalize ((List.range n.toNat).map fun (i : Nat) => g (i : Int)) = cs at lt hcs ⊢
        have ce : compEnd (.ok (cs.map fun c => Val.str [c]) m) = .ok (.ref m.length) (m ++ [.list (cs.map fun c => Val.str [c])]) := compEnd_ok (by rw [List.length_map]; unfold SZ; omega)
        have jr : joinR [] (.ref m.length) (m ++ [.list (cs.map fun c => Val.str [c])]) = .ok (.str cs) (m ++ [.list (cs.map fun c => Val.str [c])]) := by
          unfold joinR
          rw [seq_list (mem_new _ _)]
          simp only [Option.bind_some, strs_one, joinL_one]
          rw [if_pos (by rw [sum_one]; simp; unfold SZ; omega)]
        have hgc : gc m (.ok (.str cs) (m ++ [.list (cs.map fun c => Val.str [c])])) = .ok (.str cs) m := gc_app (by simp)
        have hadd : binop .add (.str [c0]) (.str cs) m = .ok (.str (c0 :: cs)) m := if_pos (by simp; unfold SZ; omega)
        show execB P (callN P d) f__law_leaf.body [some (.int a), some (.int b), none, none, none] m = _
        unfold LET at lt e0
        simp [f__law_leaf, op_modI, h0, h1', op_divI (show divOk 6 by decide), ← en, e0, hj, ↓lt, ce, jr, hgc, hadd]
      rw [ex]
      exact gc_same (by simp)
/-! ### drawing, one number behind another -/
def pw (m : Mem) (r : Nat) (xs : List Int) : Mem := m.set r (.list (xs.map .int))
theorem pw_self {m : Mem} {r : Nat} {xs : List Int} (h : m.list r = some (xs.map .int)) : m = pw m r xs := by
  have h := get_of_list h
  obtain ⟨hl, q⟩ := List.getElem?_eq_some_iff.mp h
  unfold pw
  rw [← q, List.set_getElem_self]
theorem pw_pw (m : Mem) (r : Nat) (xs ys : List Int) : pw (pw m r xs) r ys = pw m r ys := by
  unfold pw; rw [List.set_set]
theorem pw_list {m : Mem} {r : Nat} (hr : r < m.length) (xs : List Int) : Mem.list (pw m r xs) r = some (xs.map .int) := list_set_self hr
theorem draw (d : Nat) (m : Mem) {r : Nat} (hr : r < m.length) {xs : List Int} (hp : Pl xs) (many : Int) (hm : 0 < many) :
    ∃ (y : Int) (ys : List Int), 0 ≤ y ∧ y < many ∧ Pl ys ∧ callN P (d + 1) "_law_draw" [.ref r, .int many] (pw m r xs) = .ok (.int y) (pw m r ys) := by
  obtain ⟨y, ys, a, b, c, e⟩ := run_draw d (pw_list hr xs) hp hm
  exact ⟨y, ys, a, b, c, by rw [e]; exact congrArg _ (pw_pw m r xs ys)⟩
theorem leaf_ok {v : Val} (h : Leaf v) (n : Nat) : v.under n = true := okk_under n h.1
theorem gc_pw {m : Mem} {r : Nat} (hr : r < m.length) (xs ys : List Int) {v : Val} (hv : ∀ n, v.under n = true) : gc (pw m r xs) (.ok v (pw m r ys)) = .ok v (pw m r ys) := by
  have := gc_set0 (m0 := pw m r xs) (k := r) (o := .list (ys.map .int)) (v := v) (by unfold pw; simpa using hr) (by rw [ob_under]; exact underL_ints _ _) (hv _)
  rw [show (pw m r xs).set r (.list (ys.map .int)) = pw m r ys from pw_pw m r xs ys] at this
  exact this
theorem run_body (d : Nat) (m : Mem) {r : Nat} (hr : r < m.length) {xs : List Int} (hp : Pl xs) : ∃ v ys, okk v = true ∧ v.depth ≤ 4 ∧ Pl ys ∧ callN P (d + 2) "_law_body" [.ref r] (pw m r xs) = .ok v (pw m r ys) := by
  rw [callN_fn e__law_body rfl]
  obtain ⟨a1, x1, p1, q1, h1, e1⟩ := draw d m hr hp 2520 (by decide)
  obtain ⟨a2, x2, p2, q2, h2, e2⟩ := draw d m hr h1 2520 (by decide)
  obtain ⟨v1, L1, f1⟩ := run_leaf d (pw m r x2) a1 a2 ⟨p1, q1⟩ ⟨p2, q2⟩
  obtain ⟨w, x3, p3, q3, h3, e3⟩ := draw d m hr h2 6 (by decide)
  obtain ⟨a4, x4, p4, q4, h4, e4⟩ := draw d m hr h3 2520 (by decide)
  obtain ⟨a5, x5, p5, q5, h5, e5⟩ := draw d m hr h4 2520 (by decide)
  obtain ⟨v2, L2, f2⟩ := run_leaf d (pw m r x5) a4 a5 ⟨p4, q4⟩ ⟨p5, q5⟩
  have s0 : 0 ≤ SZ := by decide
  have s2 : 2 ≤ SZ := by decide
  have s3 : 3 ≤ SZ := by decide
  have u : ∀ (v : Val) (ys : List Int), okk v = true → gc (pw m r xs) (.ok v (pw m r ys)) = .ok v (pw m r ys) := fun v ys h => gc_pw hr xs ys fun n => okk_under n h
  cases c1 : decide (w < 3) with
  | true =>
    have c1' : w < 3 := of_decide_eq_true c1
    refine ⟨v1, x3, L1.1, by rw [L1.2]; decide, h3, ?_⟩
    have ex : execB P (callN P (d + 1)) f__law_body.body (start f__law_body.ns [.ref r]) (pw m r xs) = .ret v1 (pw m r x3) := by
      simp [f__law_body, start, e1, e2, f1, e3, c1']
    rw [ex]; exact u _ _ L1.1
  | false =>
    have c1' : ¬ w < 3 := of_decide_eq_false c1
    cases c2 : (w == 3) with
    | true =>
      refine ⟨.tup [], x3, rfl, by simp, h3, ?_⟩
      have ex : execB P (callN P (d + 1)) f__law_body.body (start f__law_body.ns [.ref r]) (pw m r xs) = .ret (.tup []) (pw m r x3) := by
        simp [f__law_body, start, e1, e2, f1, e3, c1', c2, s0]
      rw [ex]; exact u _ _ rfl
    | false =>
      cases c3 : (w == 4) with
      | true =>
        have hk : okk (.tup [v1, v2]) = true := by simp [okk, okkL, L1.1, L2.1]
        refine ⟨.tup [v1, v2], x5, hk, by simp [L1.2, L2.2], h5, ?_⟩
        have ex : execB P (callN P (d + 1)) f__law_body.body (start f__law_body.ns [.ref r]) (pw m r xs) = .ret (.tup [v1, v2]) (pw m r x5) := by
          simp [f__law_body, start, e1, e2, f1, e3, c1', c2, e4, e5, f2, c3, s2]
        rw [ex]; exact u _ _ hk
      | false =>
        have hk : okk (.tup [.str [116, 111, 108, 100], .tup [.int 1, .int 2], .tup [v1, .tup [v2, .tup []], .none]]) = true := by simp [okk, okkL, L1.1, L2.1]
        refine ⟨.tup [.str [116, 111, 108, 100], .tup [.int 1, .int 2], .tup [v1, .tup [v2, .tup []], .none]], x5, hk, by simp [L1.2, L2.2], h5, ?_⟩
        have ex : execB P (callN P (d + 1)) f__law_body.body (start f__law_body.ns [.ref r]) (pw m r xs) = .ret (.tup [.str [116, 111, 108, 100], .tup [.int 1, .int 2], .tup [v1, .tup [v2, .tup []], .none]]) (pw m r x5) := by
          simp [f__law_body, start, e1, e2, f1, e3, c1', c2, e4, e5, f2, c3, s0, s2, s3]
        rw [ex]; exact u _ _ hk

end L39

namespace L39
open Py
/-! ### a line -/
theorem gc_stay {m0 m' : Mem} {v : Val} (i : Nat) (o : Ob) (h : (m'.take m0.length)[i]? = some o) (h1 : m0[i]? ≠ some o) (h2 : o.under m0.length = false) : gc m0 (.ok v m') = .ok v m' := by
  unfold gc
  simp only
  rw [if_neg]
  intro ⟨_, q⟩
  rcases q i o h with z | z
  · exact h1 z
  · rw [h2] at z; cases z
theorem gc_big {m0 g : Mem} {k : Nat} {o : Ob} (hk : m0.length ≤ k) (ho : (m0 ++ g)[k]? = some o) (hu : o.under m0.length = false) : gc m0 (.ok (.ref k) (m0 ++ g)) = .ok (.ref k) (m0 ++ g) := by
  unfold gc
  have e : (m0 ++ g).take m0.length = m0 := by simp
  simp only [e]
  rw [if_pos ⟨by simp, fun i o q => .inl (by simpa using q)⟩]
  have h : Val.under m0.length (.ref k) = false := by unfold Val.under; exact decide_eq_false (Nat.not_lt.mpr hk)
  rw [h, if_neg (by decide)]
  simp only [ho]
  rw [if_neg (by rw [hu]; simp)]
theorem gc_keep {m0 m' : Mem} {v : Val} (hl : m'.length = m0.length) (h : ∀ (i : Nat) (o : Ob), m'[i]? = some o → m0[i]? = some o ∨ o.under m0.length = true) (hv : v.under m0.length = true) : gc m0 (.ok v m') = .ok v m' := by
  unfold gc
  have e : m'.take m0.length = m' := List.take_of_length_le (by omega)
  simp only
  rw [if_pos ⟨by omega, by rw [e]; exact h⟩, if_pos hv, e]
theorem set_get {m : Mem} {k i : Nat} {x o : Ob} (h : (m.set k x)[i]? = some o) : m[i]? = some o ∨ o = x := by
  by_cases e : k = i
  · subst e
    have hk : k < m.length := by
      have := (List.getElem?_eq_some_iff.mp h).1
      simpa using this
    rw [List.getElem?_set_self hk] at h
    exact .inr (Option.some.inj h).symm
  · rw [List.getElem?_set_ne e] at h
    exact .inl h
theorem gc_set2 {m : Mem} {a k : Nat} {x y : Ob} {v : Val} (hx : x.under m.length = true) (hy : y.under m.length = true) (hv : v.under m.length = true) : gc m (.ok v ((m.set a x).set k y)) = .ok v ((m.set a x).set k y) := by
  refine gc_keep (by simp) (fun i o h => ?_) hv
  rcases set_get h with h | h
  · rcases set_get h with h | h
    · exact .inl h
    · subst h; exact .inr hx
  · subst h; exact .inr hy
def lf (k : Nat) (n g : Int) : List (PySem.Str × Val) := [("last", .int n), ("taken", .int g), ("kept", .ref k)]
def ln (k : Nat) (n g : Int) : Ob := .inst "Line" (lf k n g)
theorem ln_under {k N : Nat} (h : k < N) (n g : Int) : (ln k n g).under N = true := by
  have : (Val.ref k).under N = true := by unfold Val.under; exact decide_eq_true h
  unfold ln lf Ob.under
  simp [this]
theorem ln_ne {m : Mem} {a k j : Nat} {n g : Int} {xs : List Val} (h : m[a]? = some (ln k n g)) (hk : m.list j = some xs) : a ≠ j := fun e => by
  rw [← e] at hk
  have := get_of_list hk
  rw [h] at this
  cases this
theorem fl1 : ("last" : PySem.Str) ∈ P.flds "Line" := by
  have h : (P.flds "Line").contains "last" = true := by kernel_rfl
  simpa using h
theorem fl2 : ("taken" : PySem.Str) ∈ P.flds "Line" := by
  have h : (P.flds "Line").contains "taken" = true := by kernel_rfl
  simpa using h
theorem fl3 : ("kept" : PySem.Str) ∈ P.flds "Line" := by
  have h : (P.flds "Line").contains "kept" = true := by kernel_rfl
  simpa using h
theorem pr1 : P.prop "Line" "last" = none := by kernel_rfl
theorem pr2 : P.prop "Line" "taken" = none := by kernel_rfl
theorem pr3 : P.prop "Line" "kept" = none := by kernel_rfl
theorem pr4 : P.prop "Line" "sent" = some "Line.sent" := by kernel_rfl
theorem pr5 : P.prop "Line" "got" = some "Line.got" := by kernel_rfl
theorem callN_mth {P : Prog} {d : Nat} {f : PySem.Str} {fd : Fn} {vs : List Val} {m : Mem} (h : P.ent f = some (.mth fd)) (hl : vs.length = fd.np) : callN P (d + 1) f vs m = gc m (retOf (execB P (callN P d) fd.body (start fd.ns vs) m)) := by
  rw [callN, h]; simp only; rw [if_pos hl]
section
variable {m : Mem} {a k : Nat} {n g : Int} {xs : List Val}
theorem at_last (C : Calls) (h : m[a]? = some (ln k n g)) : attrP P C "last" (.ref a) m = .ok (.int n) m := attr_fld h pr1 rfl
theorem at_taken (C : Calls) (h : m[a]? = some (ln k n g)) : attrP P C "taken" (.ref a) m = .ok (.int g) m := attr_fld h pr2 rfl
theorem at_kept (C : Calls) (h : m[a]? = some (ln k n g)) : attrP P C "kept" (.ref a) m = .ok (.ref k) m := attr_fld h pr3 rfl
theorem run_got (d : Nat) (h : m[a]? = some (ln k n g)) : callN P (d + 1) "Line.got" [.ref a] m = .ok (.int g) m := by
  rw [callN_mth e_Line_dot_got rfl]
  simp [f_Line_dot_got, start, at_taken _ h]
theorem at_got (d : Nat) (h : m[a]? = some (ln k n g)) : attrP P (callN P (d + 1)) "got" (.ref a) m = .ok (.int g) m := attr_prop h pr5 (run_got d h)
theorem run_len (d : Nat) (h : m[a]? = some (ln k n g)) (hk : m.list k = some xs) : callN P (d + 1) "Line.__len__" [.ref a] m = .ok (.int xs.length) m := by
  rw [callN_mth e_Line_dot___len__ rfl]
  have hl := len_list hk rfl
  generalize (xs.length : Int) = q at hl ⊢
  simp [f_Line_dot___len__, start, at_kept _ h, hl]
theorem run_lenR (d : Nat) (h : m[a]? = some (ln k n g)) (hk : m.list k = some xs) (hs : xs.length < 1000000) : lenR P (callN P (d + 1)) (.ref a) m = .ok (.int xs.length) m :=
  lenR_ok h (by kernel_rfl) (run_len d h hk) (by omega)
theorem run_listR (d : Nat) (h : m[a]? = some (ln k n g)) (hk : m.list k = some xs) (hs : xs.length < 1000000) : listR P (callN P (d + 1)) (.ref a) m = .ok (.ref m.length) (m ++ [.list xs]) :=
  listR_ok (iterL_ok (f := "kept") h (by kernel_rfl) rfl hk) (run_lenR d h hk hs) (by unfold SZ; omega) hk
theorem run_ownR (h : m[a]? = some (ln k n g)) (hk : m.list k = some xs) : ownR P (.ref a) m = .ok (xs, some (k, xs)) m :=
  ownR_ok (iterL_ok (f := "kept") h (by kernel_rfl) rfl hk) hk
theorem run_send (d : Nat) (v : Val) (h : m[a]? = some (ln k n g)) (hk : m.list k = some xs) (hs : xs.length < 1000000) (ox : okkL xs = true) (ov : okk v = true) :
    callN P (d + 1) "Line.send" [.ref a, v] m = .ok (.int (n + 1)) ((m.set a (ln k (n + 1) g)).set k (.list (xs ++ [.tup [.int (n + 1), v]]))) := by
  rw [callN_mth e_Line_dot_send rfl]
  have hal : a < m.length := (List.getElem?_eq_some_iff.mp h).1
  have hkl := list_lt hk
  have ne := ln_ne h hk
  obtain ⟨m1, em1⟩ : ∃ m1 : Mem, m1 = m.set a (ln k (n + 1) g) := ⟨_, rfl⟩
  have h1 : m1[a]? = some (ln k (n + 1) g) := by rw [em1]; exact List.getElem?_set_self hal
  have hk1 : m1.list k = some xs := by rw [em1, list_set ne]; exact hk
  obtain ⟨m2, em2⟩ : ∃ m2 : Mem, m2 = m1.set k (.list (xs ++ [.tup [.int (n + 1), v]])) := ⟨_, rfl⟩
  have h2 : m2[a]? = some (ln k (n + 1) g) := by rw [em2, List.getElem?_set_ne (Ne.symm ne)]; exact h1
  have st : putAttr "last" (.int (n + 1)) (lf k n g) = lf k (n + 1) g := rfl
  have sz : (lf k n g).length < 1000 := by show 3 < 1000; decide
  have app : bmop .append (.ref k) [.tup [.int (n + 1), v]] m1 = .ok .none m2 := by rw [bm_app hk1 (by unfold SZ; omega), em2]
  have s2 : 2 ≤ SZ := by decide
  have ex : execB P (callN P d) f_Line_dot_send.body (start f_Line_dot_send.ns [.ref a, v]) m = .ret (.int (n + 1)) m2 := by
    have hh := h
    unfold ln at hh
    have em1' : m.set a (.inst "Line" (lf k (n + 1) g)) = m1 := em1.symm
    simp [f_Line_dot_send, start, at_last _ h, hh, fl1, st, sz, em1', at_kept _ h1, recv_list hk1, at_last _ h1, s2, app, at_last _ h2]
  rw [ex, em2, em1]
  refine gc_set2 (ln_under hkl _ _) ?_ (by simp)
  rw [ob_under]
  refine underL_all fun x hx => ?_
  rcases List.mem_append.mp hx with hx | hx
  · exact okk_under _ (okkL_mem ox hx)
  · rw [List.mem_singleton.mp hx]
    simp [okk_under _ ov]
theorem run_is_next (d : Nat) (x : Int) (h : m[a]? = some (ln k n g)) : callN P (d + 1) "Line.is_next" [.ref a, .int x] m = .ok (.bool (x == g + 1)) m := by
  rw [callN_mth e_Line_dot_is_next rfl]
  simp [f_Line_dot_is_next, start, at_taken _ h]
theorem run_take (d : Nat) (x : Int) (h : m[a]? = some (ln k n g)) (hkl : k < m.length) : callN P (d + 2) "Line.take" [.ref a, .int x] m = .ok (.bool (x == g + 1)) (if (x == g + 1) = true then m.set a (ln k n x) else m) := by
  rw [callN_mth e_Line_dot_take rfl]
  have hal : a < m.length := (List.getElem?_eq_some_iff.mp h).1
  have nx := run_is_next d x h
  have mt : P.meth "Line" "is_next" = some "Line.is_next" := by kernel_rfl
  have hh := h
  unfold ln at hh
  have sz : (lf k n g).length < 1000 := by show 3 < 1000; decide
  have lk : ((lf k n g).lookup ("is_next" : PySem.Str)).isNone = true := rfl
  cases q : (x == g + 1) with
  | true =>
    rw [q] at nx
    have st : putAttr "taken" (.int x) (lf k n g) = lf k n x := rfl
    have ex : execB P (callN P (d + 1)) f_Line_dot_take.body (start f_Line_dot_take.ns [.ref a, .int x]) m = .ret (.bool true) (m.set a (ln k n x)) := by
      simp [f_Line_dot_take, start, hh, mt, lk, nx, fl2, st, sz, ln]
    rw [ex, if_pos rfl]
    exact gc_set0 hal (ln_under hkl _ _) (by simp)
  | false =>
    rw [q] at nx
    simp [f_Line_dot_take, start, hh, mt, lk, nx]
theorem run_Line (d : Nat) (m : Mem) : callN P (d + 2) "Line" [] m = .ok (.ref m.length) (m ++ [ln (m.length + 1) 0 0, .list []]) := by
  have s0 : 0 ≤ SZ := by decide
  have n1 : ¬ ("last" : PySem.Str) = "taken" := by decide +kernel
  have n2 : ¬ ("last" : PySem.Str) = "kept" := by decide +kernel
  have n3 : ¬ ("taken" : PySem.Str) = "kept" := by decide +kernel
  have hi : callN P (d + 1) "Line.__init__" [.ref m.length] (m ++ [.inst "Line" []]) = .ok .none (m ++ [ln (m.length + 1) 0 0, .list []]) := by
    rw [callN_mth e_Line_dot___init__ rfl]
    have ex : execB P (callN P d) f_Line_dot___init__.body (start f_Line_dot___init__.ns [.ref m.length]) (m ++ [.inst "Line" []]) = .nx [some (.ref m.length)] (m ++ [ln (m.length + 1) 0 0, .list []]) := by
      simp [f_Line_dot___init__, start, fl1, fl2, fl3, putAttr, s0, ln, lf, n1, n2, n3]
    rw [ex]
    refine gc_stay m.length (ln (m.length + 1) 0 0) ?_ ?_ ?_
    · rw [List.getElem?_take_of_lt (by simp)]
      simp
    · simp [ln, lf]
    · simp [ln, lf, Ob.under, Val.under]
  rw [callN, e_Line]
  simp only
  have hi' : callN P (d + 1) (PySem.Str.ofString "Line.__init__") (.ref m.length :: []) (m ++ [.inst "Line" []]) = .ok .none (m ++ [ln (m.length + 1) 0 0, .list []]) := hi
  rw [hi']
  simp only [Res.bind, mkG]
  exact gc_big (o := ln (m.length + 1) 0 0) (Nat.le_refl _) (by simp) (by simp [ln, lf, Ob.under, Val.under])
end

/-! ### numbered bodies -/
def prN : Nat → List Val → List Val
  | _, [] => []
  | i, b :: r => .tup [.int ((i : Int) + 1), b] :: prN (i + 1) r
theorem prN_len : ∀ (i : Nat) (bs : List Val), (prN i bs).length = bs.length
  | _, [] => rfl
  | i, b :: r => by unfold prN; rw [List.length_cons, prN_len (i + 1) r]; rfl
theorem prN_app : ∀ (i : Nat) (bs : List Val) (v : Val), prN i (bs ++ [v]) = prN i bs ++ [.tup [.int (((i + bs.length : Nat) : Int) + 1), v]]
  | i, [], v => by simp [prN]
  | i, b :: r, v => by
    simp only [List.cons_append]
    unfold prN
    rw [prN_app (i + 1) r v]
    simp only [List.cons_append, List.length_cons]
    rw [show i + 1 + r.length = i + (r.length + 1) by omega]
theorem prN_rng : ∀ (i : Nat) (bs : List Val), prN i bs = (List.range bs.length).map fun (j : Nat) => .tup [.int (((i + j : Nat) : Int) + 1), bs.getD j .none]
  | i, [] => rfl
  | i, b :: r => by
    unfold prN
    rw [prN_rng (i + 1) r, List.length_cons, List.range_succ_eq_map, List.map_cons, List.map_map]
    congr 1
    refine List.map_congr_left fun j hj => ?_
    simp only [Function.comp]
    rw [show i + 1 + j = i + (j + 1) by omega]
    simp
def Bds (bs : List Val) : Prop := bs.length ≤ 1000 ∧ ∀ b ∈ bs, okk b = true ∧ b.depth ≤ 4
theorem Bds.snoc {bs : List Val} {v : Val} (h : Bds bs) (hl : bs.length < 1000) (hv : okk v = true) (hd : v.depth ≤ 4) : Bds (bs ++ [v]) := by
  refine ⟨by rw [List.length_append]; exact hl, fun b hb => ?_⟩
  rcases List.mem_append.mp hb with hb | hb
  · exact h.2 b hb
  · rw [List.mem_singleton.mp hb]; exact ⟨hv, hd⟩
theorem prN_mem : ∀ {i : Nat} {bs : List Val} {x : Val}, x ∈ prN i bs → ∃ (j : Nat) (b : Val), b ∈ bs ∧ i ≤ j ∧ j < i + bs.length ∧ x = .tup [.int ((j : Int) + 1), b]
  | i, [], x, h => by cases h
  | i, b :: r, x, h => by
    unfold prN at h
    rcases List.mem_cons.mp h with e | e
    · exact ⟨i, b, List.mem_cons_self, Nat.le_refl _, by simp, e⟩
    · obtain ⟨j, c, h1, h2, h3, h4⟩ := prN_mem e
      exact ⟨j, c, List.mem_cons_of_mem _ h1, by omega, by simp; omega, h4⟩
theorem prN_okk {i : Nat} {bs : List Val} (h : Bds bs) : okkL (prN i bs) = true := okkL_all fun x hx => by
  obtain ⟨j, b, hb, _, _, e⟩ := prN_mem hx
  subst e
  simp [okk, okkL, (h.2 b hb).1]
theorem prN_dp {i : Nat} {bs : List Val} (h : Bds bs) : Val.depthL (prN i bs) ≤ 5 := dpL_all fun x hx => by
  obtain ⟨j, b, hb, _, _, e⟩ := prN_mem hx
  subst e
  have := (h.2 b hb).2
  simp
  omega
theorem tup_okk {i : Nat} {bs : List Val} (h : Bds bs) : okk (.tup (prN i bs)) = true := by
  unfold okk
  rw [prN_okk h, Bool.and_true]
  exact decide_eq_true (by rw [prN_len]; have := h.1; omega)
theorem pw_app {m g : Mem} {r : Nat} (hr : r < m.length) (xs : List Int) : pw m r xs ++ g = pw (m ++ g) r xs := by
  unfold pw
  rw [List.set_append_left _ _ hr]

/-! ### acknowledging -/
theorem run_keeps (d : Nat) {m : Mem} {a k dn : Nat} {n g x : Int} {ks : List Val} (h : m[a]? = some (ln k n g)) (hk : m.list k = some (prN dn ks)) (hx : x ≤ ((dn + ks.length : Nat) : Int)) :
    callN P (d + 1) "Line.keeps_up_to" [.ref a, .int x] m = .ok (.bool (decide ((dn : Int) < x))) m := by
  rw [callN_mth e_Line_dot_keeps_up_to rfl]
  have hl := len_list hk rfl
  cases ks with
  | nil =>
    have hf : decide ((dn : Int) < x) = false := decide_eq_false (by simp at hx; omega)
    rw [hf]
    have hl0 : ((prN dn []).length : Int) = 0 := rfl
    rw [hl0] at hl
    simp [f_Line_dot_keeps_up_to, start, at_kept _ h, hl]
  | cons b r =>
    obtain ⟨q, hq, q0⟩ : ∃ q : Int, q = ((prN dn (b :: r)).length : Int) ∧ 0 < q := ⟨_, rfl, by rw [prN_len]; simp⟩
    rw [← hq] at hl
    have ix : idxop m (.ref k) (.int 0) = some (.tup [.int ((dn : Int) + 1), b]) := by
      rw [idx_list hk, at_nat (Int.le_refl _) (by rw [prN_len]; simp)]
      rfl
    have e : decide ((dn : Int) < x) = decide ((dn : Int) + 1 ≤ x) := by
      by_cases h : (dn : Int) < x
      · rw [decide_eq_true h, decide_eq_true (by omega)]
      · rw [decide_eq_false h, decide_eq_false (by omega)]
    rw [e]
    generalize ((dn : Int) + 1) = D at ix ⊢
    have i2 : ∀ m, idxop m (.tup [.int D, b]) (.int 0) = some (.int D) := fun _ => rfl
    simp [f_Line_dot_keeps_up_to, start, at_kept _ h, hl, q0, ix, i2]
def keepF (x : Int) (v : Val) : Option Val := match v with
  | .tup [.int o, b] => if x < o then some (.tup [.int o, b]) else none
  | _ => none
theorem prN_all (x : Int) : ∀ (i : Nat) (bs : List Val), x ≤ i → (prN i bs).filterMap (keepF x) = prN i bs
  | _, [], _ => rfl
  | i, b :: r, h => by
    unfold prN
    have e : keepF x (.tup [.int ((i : Int) + 1), b]) = some (.tup [.int ((i : Int) + 1), b]) := if_pos (by omega)
    rw [List.filterMap_cons, e]
    simp only
    rw [prN_all x (i + 1) r (by omega)]
theorem prN_cut (t : Nat) : ∀ (j i : Nat) (bs : List Val), t = i + j → j ≤ bs.length → (prN i bs).filterMap (keepF (t : Int)) = prN t (bs.drop j)
  | 0, i, bs, e, _ => by
    rw [List.drop_zero]
    have : t = i := by omega
    subst this
    exact prN_all _ _ _ (Int.le_refl _)
  | j + 1, i, [], e, h => by simp at h
  | j + 1, i, b :: r, e, h => by
    rw [show prN i (b :: r) = .tup [.int ((i : Int) + 1), b] :: prN (i + 1) r from rfl]
    have e1 : keepF (t : Int) (.tup [.int ((i : Int) + 1), b]) = none := if_neg (by omega)
    rw [List.filterMap_cons, e1]
    simp only
    rw [prN_cut t j (i + 1) r (by omega) (by simpa using h)]
    rfl
/-- acknowledge -/
theorem run_ack (d : Nat) {m : Mem} {a k dn t : Nat} {n g x : Int} {ks : List Val} (h : m[a]? = some (ln k n g)) (hk : m.list k = some (prN dn ks)) (ex : x = (t : Int)) (hx : t ≤ dn + ks.length) (hs : ks.length < 100000) :
    callN P (d + 2) "Line.acknowledge" [.ref a, .int x] m = .ok (.bool (decide ((dn : Int) < x))) (if dn < t then (m ++ [Ob.list (prN t (ks.drop (t - dn)))]).set a (ln m.length n g) else m) := by
  rw [callN_mth e_Line_dot_acknowledge rfl]
  have hal : a < m.length := (List.getElem?_eq_some_iff.mp h).1
  have hkl := list_lt hk
  have kp := run_keeps d h hk (x := x) (by omega)
  have mt : P.meth "Line" "keeps_up_to" = some "Line.keeps_up_to" := by kernel_rfl
  have sz : (lf k n g).length < 1000 := by show 3 < 1000; decide
  have lk : ((lf k n g).lookup ("keeps_up_to" : PySem.Str)).isNone = true := rfl
  have hh := h
  unfold ln at hh
  by_cases q : dn < t
  · have q' : decide ((dn : Int) < x) = true := decide_eq_true (by omega)
    rw [q'] at kp ⊢
    rw [if_pos q]
    have st : ∀ j, putAttr "kept" (.ref j) (lf k n g) = lf j n g := fun _ => rfl
    have el : ∀ y ∈ prN dn ks, compElIf (.tup [.name 2, .name 3]) [some (.ref a), some (.int x), none, none] (evalE P (callN P (d + 1)) (.cmp .gt (.var 2) (.var 1))) (evalE P (callN P (d + 1)) (.tup [.var 2, .var 3])) y m = .ok (keepF x y) m := fun y hy => by
      obtain ⟨j, b, _, _, _, ey⟩ := prN_mem hy
      subst ey
      generalize ((j : Int) + 1) = D
      have s2 : 2 ≤ SZ := by decide
      show _ = Res.ok (if x < D then some (Val.tup [.int D, b]) else none) m
      by_cases c : x < D
      · simp [compElIf, Tg.slots, Tg.slotsL, wipeL, c, s2]
      · simp [compElIf, Tg.slots, Tg.slotsL, wipeL, c]
    have stl : still (some (k, prN dn ks)) m := hk
    have cp : compLoop (some (k, prN dn ks)) (compElIf (.tup [.name 2, .name 3]) [some (.ref a), some (.int x), none, none] (evalE P (callN P (d + 1)) (.cmp .gt (.var 2) (.var 1))) (evalE P (callN P (d + 1)) (.tup [.var 2, .var 3]))) (prN dn ks) m = .ok (prN t (ks.drop (t - dn))) m := by
      rw [comp_pure (keepF x) stl el, ex, prN_cut t (t - dn) dn ks (by omega) (by omega)]
    have ce : compEnd (.ok (prN t (ks.drop (t - dn))) m) = .ok (.ref m.length) (m ++ [Ob.list (prN t (ks.drop (t - dn)))]) := compEnd_ok (by rw [prN_len, List.length_drop]; unfold SZ; omega)
    have h1 : (m ++ [Ob.list (prN t (ks.drop (t - dn)))])[a]? = some (.inst "Line" (lf k n g)) := get_app hh
    have exx : execB P (callN P (d + 1)) f_Line_dot_acknowledge.body (start f_Line_dot_acknowledge.ns [.ref a, .int x]) m = .ret (.bool true) ((m ++ [Ob.list (prN t (ks.drop (t - dn)))]).set a (ln m.length n g)) := by
      generalize prN t (ks.drop (t - dn)) = new at *
      generalize prN dn ks = old at *
      simp [f_Line_dot_acknowledge, start, hh, mt, lk, kp, at_kept _ h, hk, ↓cp, ce, h1, fl3, st, sz, ln]
    rw [exx]
    refine gc_stay a (ln m.length n g) ?_ ?_ ?_
    · rw [List.getElem?_take_of_lt hal, List.getElem?_set_self (by simp; omega)]
    · rw [h]
      intro e
      simp [ln, lf] at e
      omega
    · simp [ln, lf, Ob.under, Val.under]
  · have q' : decide ((dn : Int) < x) = false := decide_eq_false (by omega)
    rw [q'] at kp ⊢
    rw [if_neg q]
    simp [f_Line_dot_acknowledge, start, hh, mt, lk, kp]

end L39

namespace L39
open Py

structure Ab where
  xs : List Int
  s : Nat → List Val
  g : Nat → Nat
  dn : Nat → Nat
  k : Nat → Nat
  bag : List Val
def up {α : Type} (f : Nat → α) (e : Nat) (x : α) : Nat → α := fun j => if j = e then x else f j
theorem up_self {α : Type} (f : Nat → α) (e : Nat) (x : α) : up f e x e = x := if_pos rfl
theorem up_ne {α : Type} (f : Nat → α) {e j : Nat} (x : α) (h : j ≠ e) : up f e x j = f j := if_neg h
structure Cs (m : Mem) (A : Ab) : Prop where
  p0 : m.list 0 = some (A.xs.map .int)
  ln : ∀ e, e < 2 → m[1 + 2 * e]? = some (ln (A.k e) (A.s e).length (A.g e))
  kp : ∀ e, e < 2 → m.list (A.k e) = some (prN (A.dn e) ((A.s e).drop (A.dn e)))
  l5 : m.list 5 = some [.ref 1, .ref 3]
  sn : ∀ e, e < 2 → m.list (6 + e) = some (A.s e)
  l8 : m.list 8 = some [.ref 6, .ref 7]
  tk : ∀ e, e < 2 → m.list (9 + e) = some ((A.s (1 - e)).take (A.g e))
  l11 : m.list 11 = some [.ref 9, .ref 10]
  bg : m.list 12 = some A.bag
  kd : ∀ e, e < 2 → A.k e = 2 ∨ A.k e = 4 ∨ 13 ≤ A.k e
  kk : A.k 0 ≠ A.k 1
structure Iv (A : Ab) : Prop where
  hp : Pl A.xs
  gl : ∀ e, e < 2 → A.g e ≤ (A.s (1 - e)).length
  dl : ∀ e, e < 2 → A.dn e ≤ A.g (1 - e)
  B : ∀ e, e < 2 → Bds (A.s e)
inductive Lt (A : Ab) : Val → Prop where
  | ack (d q : Nat) (D Q : Int) (hd : d < 2) (eD : D = d) (eQ : Q = q) (h : q ≤ A.g (1 - d)) : Lt A (.tup [.int D, .int 0, .int Q])
  | data (d j : Nat) (D J : Int) (b : Val) (hd : d < 2) (eD : D = d) (eJ : J = j + 1) (h : (A.s (1 - d))[j]? = some b) : Lt A (.tup [.int D, .int J, b])
structure Mono (A A' : Ab) : Prop where
  s : ∀ (e j : Nat) (b : Val), (A.s e)[j]? = some b → (A'.s e)[j]? = some b
  g : ∀ e, A.g e ≤ A'.g e
  dn : ∀ e, A.dn e ≤ A'.dn e
theorem Mono.refl (A : Ab) : Mono A A := ⟨fun _ _ _ h => h, fun _ => Nat.le_refl _, fun _ => Nat.le_refl _⟩
theorem Mono.trans {A B C : Ab} (x : Mono A B) (y : Mono B C) : Mono A C := ⟨fun e j b h => y.s e j b (x.s e j b h), fun e => Nat.le_trans (x.g e) (y.g e), fun e => Nat.le_trans (x.dn e) (y.dn e)⟩
theorem Lt.mono {A A' : Ab} (x : Mono A A') {v : Val} (h : Lt A v) : Lt A' v := by
  cases h with
  | ack d q D Q hd eD eQ h => exact .ack d q D Q hd eD eQ (Nat.le_trans h (x.g _))
  | data d j D J b hd eD eJ h => exact .data d j D J b hd eD eJ (x.s _ _ _ h)
section
variable {m : Mem} {A : Ab}
theorem Cs.pool (c : Cs m A) (ys : List Int) : Cs (pw m 0 ys) { A with xs := ys } where
  p0 := pw_list (list_lt c.p0) ys
  ln := fun e he => by unfold L39.pw; rw [List.getElem?_set_ne (show (0 : Nat) ≠ 1 + 2 * e by omega)]; exact c.ln e he
  kp := fun e he => by dsimp only; unfold L39.pw; rw [list_set (by have := c.kd e he; omega)]; exact c.kp e he
  l5 := by unfold L39.pw; rw [list_set (by decide)]; exact c.l5
  sn := fun e he => by unfold L39.pw; rw [list_set (by omega)]; exact c.sn e he
  l8 := by unfold L39.pw; rw [list_set (by decide)]; exact c.l8
  tk := fun e he => by unfold L39.pw; rw [list_set (by omega)]; exact c.tk e he
  l11 := by unfold L39.pw; rw [list_set (by decide)]; exact c.l11
  bg := by unfold L39.pw; rw [list_set (by decide)]; exact c.bg
  kd := c.kd
  kk := c.kk
theorem Cs.app (c : Cs m A) (G : Mem) : Cs (m ++ G) A where
  p0 := list_app c.p0
  ln := fun e he => get_app (c.ln e he)
  kp := fun e he => list_app (c.kp e he)
  l5 := list_app c.l5
  sn := fun e he => list_app (c.sn e he)
  l8 := list_app c.l8
  tk := fun e he => list_app (c.tk e he)
  l11 := list_app c.l11
  bg := list_app c.bg
  kd := c.kd
  kk := c.kk
theorem Cs.bagged (c : Cs m A) (b : List Val) : Cs (m.set 12 (.list b)) { A with bag := b } where
  p0 := by rw [list_set (by decide)]; exact c.p0
  ln := fun e he => by rw [List.getElem?_set_ne (show (12 : Nat) ≠ 1 + 2 * e by omega)]; exact c.ln e he
  kp := fun e he => by dsimp only; rw [list_set (by have := c.kd e he; omega)]; exact c.kp e he
  l5 := by rw [list_set (by decide)]; exact c.l5
  sn := fun e he => by rw [list_set (by omega)]; exact c.sn e he
  l8 := by rw [list_set (by decide)]; exact c.l8
  tk := fun e he => by rw [list_set (by omega)]; exact c.tk e he
  l11 := by rw [list_set (by decide)]; exact c.l11
  bg := list_set_self (list_lt c.bg)
  kd := c.kd
  kk := c.kk
theorem Cs.kne (c : Cs m A) {e j : Nat} (he : e < 2) (hj : j < 2) (h : e ≠ j) : A.k e ≠ A.k j := by
  have := c.kk
  rcases (by omega : e = 0 ∧ j = 1 ∨ e = 1 ∧ j = 0) with ⟨rfl, rfl⟩ | ⟨rfl, rfl⟩
  · exact this
  · exact Ne.symm this
/-- a body is sent -/
theorem Cs.sent (c : Cs m A) (i : Iv A) {e : Nat} (he : e < 2) (v : Val) {n : Int} (en : n = ((A.s e).length : Int)) : Cs (((m.set (6 + e) (.list (A.s e ++ [v]))).set (1 + 2 * e) (L39.ln (A.k e) (n + 1) (A.g e))).set (A.k e) (.list (prN (A.dn e) ((A.s e).drop (A.dn e)) ++ [.tup [.int (n + 1), v]]))) { A with s := up A.s e (A.s e ++ [v]) } where
  p0 := by rw [list_set (by have := c.kd e he; omega), list_set (by omega), list_set (by omega)]; exact c.p0
  ln := fun j hj => by
    dsimp only
    have k1 := c.kd e he
    rw [List.getElem?_set_ne (by omega)]
    by_cases q : j = e
    · subst q
      rw [List.getElem?_set_self (by have := (List.getElem?_eq_some_iff.mp (c.ln j hj)).1; simpa using this)]
      simp [up_self, en]
    · rw [List.getElem?_set_ne (by omega), List.getElem?_set_ne (by omega), up_ne _ _ q]
      exact c.ln j hj
  kp := fun j hj => by
    dsimp only
    have k1 := c.kd e he
    have hl : A.dn e ≤ (A.s e).length := Nat.le_trans (i.dl e he) (by have := i.gl (1 - e) (by omega); rwa [show 1 - (1 - e) = e by omega] at this)
    by_cases q : j = e
    · subst q
      rw [list_set_self (by have := list_lt (c.kp j hj); simpa using this)]
      simp only [up_self]
      rw [List.drop_append_of_le_length hl, prN_app, List.length_drop, show A.dn j + ((A.s j).length - A.dn j) = (A.s j).length by omega, en]
    · have k2 := c.kd j hj
      rw [list_set (c.kne he hj (Ne.symm q)), list_set (by omega), list_set (by omega), up_ne _ _ q]
      exact c.kp j hj
  l5 := by rw [list_set (by have := c.kd e he; omega), list_set (by omega), list_set (by omega)]; exact c.l5
  sn := fun j hj => by
    dsimp only
    have k1 := c.kd e he
    rw [list_set (by omega), list_set (by omega)]
    by_cases q : j = e
    · subst q
      rw [list_set_self (list_lt (c.sn j hj)), up_self]
    · rw [list_set (by omega), up_ne _ _ q]
      exact c.sn j hj
  l8 := by rw [list_set (by have := c.kd e he; omega), list_set (by omega), list_set (by omega)]; exact c.l8
  tk := fun j hj => by
    dsimp only
    have k1 := c.kd e he
    rw [list_set (by omega), list_set (by omega), list_set (by omega)]
    by_cases q : 1 - j = e
    · rw [q, up_self, List.take_append_of_le_length (by have := i.gl j hj; rwa [q] at this), ← q]
      exact c.tk j hj
    · rw [up_ne _ _ q]
      exact c.tk j hj
  l11 := by rw [list_set (by have := c.kd e he; omega), list_set (by omega), list_set (by omega)]; exact c.l11
  bg := by rw [list_set (by have := c.kd e he; omega), list_set (by omega), list_set (by omega)]; exact c.bg
  kd := c.kd
  kk := c.kk
/-- a body is taken -/
theorem Cs.took (c : Cs m A) {e : Nat} (he : e < 2) {b : Val} (hb : (A.s (1 - e))[A.g e]? = some b) {t : Int} (et : t = ((A.g e : Nat) : Int) + 1) : Cs ((m.set (9 + e) (.list ((A.s (1 - e)).take (A.g e) ++ [b]))).set (1 + 2 * e) (L39.ln (A.k e) (A.s e).length t)) { A with g := up A.g e (A.g e + 1) } where
  p0 := by rw [list_set (by omega), list_set (by omega)]; exact c.p0
  ln := fun j hj => by
    dsimp only
    by_cases q : j = e
    · subst q
      rw [List.getElem?_set_self (by have := (List.getElem?_eq_some_iff.mp (c.ln j hj)).1; simpa using this)]
      simp [up_self, et]
    · rw [List.getElem?_set_ne (by omega), List.getElem?_set_ne (by omega), up_ne _ _ q]
      exact c.ln j hj
  kp := fun j hj => by
    dsimp only
    have k2 := c.kd j hj
    rw [list_set (by omega), list_set (by omega)]
    exact c.kp j hj
  l5 := by rw [list_set (by omega), list_set (by omega)]; exact c.l5
  sn := fun j hj => by dsimp only; rw [list_set (by omega), list_set (by omega)]; exact c.sn j hj
  l8 := by rw [list_set (by omega), list_set (by omega)]; exact c.l8
  tk := fun j hj => by
    dsimp only
    rw [list_set (by omega)]
    by_cases q : j = e
    · subst q
      rw [list_set_self (list_lt (c.tk j hj)), up_self, List.take_succ, hb]
      rfl
    · rw [list_set (by omega), up_ne _ _ q]
      exact c.tk j hj
  l11 := by rw [list_set (by omega), list_set (by omega)]; exact c.l11
  bg := by rw [list_set (by omega), list_set (by omega)]; exact c.bg
  kd := c.kd
  kk := c.kk
/-- bodies are acknowledged -/
theorem Cs.acked (c : Cs m A) {e t : Nat} (he : e < 2) (ht : A.dn e < t) : Cs ((m ++ [Ob.list (prN t (((A.s e).drop (A.dn e)).drop (t - A.dn e)))]).set (1 + 2 * e) (L39.ln m.length (A.s e).length (A.g e))) { A with dn := up A.dn e t, k := up A.k e m.length } where
  p0 := by rw [list_set (by omega)]; exact list_app c.p0
  ln := fun j hj => by
    dsimp only
    by_cases q : j = e
    · subst q
      rw [List.getElem?_set_self (by have := (List.getElem?_eq_some_iff.mp (c.ln j hj)).1; simp; omega)]
      simp [up_self]
    · rw [List.getElem?_set_ne (by omega)]
      simp only [up_ne _ _ q]
      exact get_app (c.ln j hj)
  kp := fun j hj => by
    dsimp only
    have hm := list_lt c.bg
    by_cases q : j = e
    · subst q
      simp only [up_self]
      rw [list_set (by omega), mem_new, List.drop_drop, show A.dn j + (t - A.dn j) = t by omega]
    · simp only [up_ne _ _ q]
      have k2 := c.kd j hj
      rw [list_set (by omega)]
      exact list_app (c.kp j hj)
  l5 := by rw [list_set (by omega)]; exact list_app c.l5
  sn := fun j hj => by dsimp only; rw [list_set (by omega)]; exact list_app (c.sn j hj)
  l8 := by rw [list_set (by omega)]; exact list_app c.l8
  tk := fun j hj => by dsimp only; rw [list_set (by omega)]; exact list_app (c.tk j hj)
  l11 := by rw [list_set (by omega)]; exact list_app c.l11
  bg := by rw [list_set (by omega)]; exact list_app c.bg
  kd := fun j hj => by
    dsimp only
    have hm := list_lt c.bg
    by_cases q : j = e
    · subst q; simp only [up_self]; omega
    · simp only [up_ne _ _ q]; exact c.kd j hj
  kk := by
    have h0 := list_lt (c.kp 0 (by decide))
    have h1 := list_lt (c.kp 1 (by decide))
    show up A.k e m.length 0 ≠ up A.k e m.length 1
    rcases (by omega : e = 0 ∨ e = 1) with rfl | rfl
    · rw [up_self, up_ne _ _ (by decide)]; omega
    · rw [up_self, up_ne _ _ (by decide)]; omega
end

end L39

namespace L39
open Py

def toL (D : Int) (v : Val) : Val := match v with
  | .tup [a, b] => .tup [.int D, a, b]
  | _ => .none
def rd (A : Ab) (e : Nat) (D : Int) : List Val := (prN (A.dn e) ((A.s e).drop (A.dn e))).map (toL D) ++ [.tup [.int D, .int 0, .int (A.g e)]]
section
variable {m : Mem} {A : Ab}
theorem at5 (c : Cs m A) {e : Nat} (he : e < 2) {E : Int} (eE : E = e) : idxop m (.ref 5) (.int E) = some (.ref (1 + 2 * e)) := by
  rw [idx_list c.l5]
  rcases (by omega : e = 0 ∨ e = 1) with rfl | rfl <;> subst eE <;> rfl
theorem at8 (c : Cs m A) {e : Nat} (he : e < 2) {E : Int} (eE : E = e) : idxop m (.ref 8) (.int E) = some (.ref (6 + e)) := by
  rw [idx_list c.l8]
  rcases (by omega : e = 0 ∨ e = 1) with rfl | rfl <;> subst eE <;> rfl
theorem at11 (c : Cs m A) {e : Nat} (he : e < 2) {E : Int} (eE : E = e) : idxop m (.ref 11) (.int E) = some (.ref (9 + e)) := by
  rw [idx_list c.l11]
  rcases (by omega : e = 0 ∨ e = 1) with rfl | rfl <;> subst eE <;> rfl
theorem bag_set (c : Cs m A) : m = m.set 12 (.list A.bag) := by
  have h := get_of_list c.bg
  obtain ⟨hl, q⟩ := List.getElem?_eq_some_iff.mp h
  rw [← q, List.set_getElem_self]
theorem lt_okk {v : Val} (i : Iv A) (h : Lt A v) : okk v = true ∧ v.depth ≤ 5 := by
  cases h with
  | ack d q D Q hd eD eQ h => exact ⟨rfl, by simp⟩
  | data d j D J b hd eD eJ h =>
    have hb := (i.B (1 - d) (by omega)).2 b (List.mem_of_getElem? h)
    exact ⟨by simp [okk, okkL, hb.1], by have := hb.2; simp; omega⟩
theorem rd_lt (i : Iv A) {e : Nat} (he : e < 2) {D : Int} (eD : D = ((1 - e : Nat) : Int)) : ∀ v ∈ rd A e D, Lt A v := fun v hv => by
  unfold rd at hv
  rcases List.mem_append.mp hv with hv | hv
  · obtain ⟨x, hx, ex⟩ := List.mem_map.mp hv
    rw [prN_rng] at hx
    obtain ⟨j, hj, ej⟩ := List.mem_map.mp hx
    have hj : j < ((A.s e).drop (A.dn e)).length := by simpa using hj
    subst ej ex
    refine .data (1 - e) (A.dn e + j) D _ _ (by omega) eD (by push_cast; rfl) ?_
    have hl : A.dn e + j < (A.s e).length := by rw [List.length_drop] at hj; omega
    rw [show 1 - (1 - e) = e by omega]
    simp [List.getD, List.getElem?_eq_getElem hl]
  · rw [List.mem_singleton.mp hv]
    exact .ack (1 - e) (A.g e) D _ (by omega) eD rfl (by rw [show 1 - (1 - e) = e by omega]; exact Nat.le_refl _)
theorem list_ext_set {m : Mem} {b b' : List Val} : (m.set 12 (.list b)).set 12 (.list b') = m.set 12 (.list b') := List.set_set ..
/-- what an end keeps is read into the bag -/
theorem run_read (d : Nat) (c : Cs m A) (i : Iv A) {e : Nat} (he : e < 2) {E : Int} (eE : E = e) (hb : A.bag.length ≤ 230) (hs : (A.s e).length ≤ 70) (hk : ∀ v ∈ A.bag, okk v = true) :
    ∃ b, callN P (d + 2) "_law_read" [.ref 5, .ref 12, .int E] m = .ok (.bool true) (m.set 12 (.list b)) ∧ (b = A.bag ∨ (A.bag.length ≤ 150 ∧ b = A.bag ++ rd A e (1 - E))) ∧ (A.bag.length ≤ 150 → b = A.bag ++ rd A e (1 - E)) := by
  rw [callN_fn e__law_read rfl]
  have hl := len_list c.bg rfl
  by_cases q : A.bag.length > 150
  · refine ⟨A.bag, ?_, .inl rfl, fun h => by omega⟩
    obtain ⟨n, en⟩ : ∃ n : Int, n = A.bag.length := ⟨_, rfl⟩
    rw [← en] at hl
    have hn : 150 < n := by omega
    rw [← bag_set c]
    simp [f__law_read, start, hl, hn]
  · obtain ⟨n, en⟩ : ∃ n : Int, n = A.bag.length := ⟨_, rfl⟩
    rw [← en] at hl
    have hn : ¬ 150 < n := by omega
    refine ⟨A.bag ++ rd A e (1 - E), ?_, .inr ⟨by omega, rfl⟩, fun _ => rfl⟩
    have a5 := at5 c he eE
    have ow := run_ownR (c.ln e he) (c.kp e he)
    have kd := c.kd e he
    obtain ⟨ps, eps⟩ : ∃ ps, ps = prN (A.dn e) ((A.s e).drop (A.dn e)) := ⟨_, rfl⟩
    have hkl : m.list (A.k e) = some ps := by rw [eps]; exact c.kp e he
    have psl : ps.length ≤ 70 := by rw [eps, prN_len, List.length_drop]; omega
    have psm : ∀ x ∈ ps, ∃ (J : Int) (b : Val), x = .tup [.int J, b] := fun x hx => by
      rw [eps] at hx
      obtain ⟨j, b, _, _, _, ex⟩ := prN_mem hx
      exact ⟨_, b, ex⟩
    have erd : rd A e (1 - E) = ps.map (toL (1 - E)) ++ [.tup [.int (1 - E), .int 0, .int (A.g e)]] := by unfold rd; rw [eps]
    rw [← eps] at ow
    have loop := for_all (chk := some (A.k e, ps)) (t := .name 3) (b := execB P (callN P (d + 1)) b__law_read_1) (xs := ps)
      (fun i l m' => i ≤ ps.length ∧ ∃ x3, l = [some (.ref 5), some (.ref 12), some (.int E), x3] ∧ m' = m.set 12 (.list (A.bag ++ (ps.take i).map (toL (1 - E)))))
      (fun i l m' h => by
        obtain ⟨_, x3, _, em⟩ := h
        show m'.list (A.k e) = some ps
        rw [em, list_set (by omega)]
        exact hkl) (fun i x l m' hx hi => by
      obtain ⟨hil, x3, el, em⟩ := hi
      have hip : i < ps.length := (List.getElem?_eq_some_iff.mp hx).1
      obtain ⟨J, b, ex⟩ := psm x (List.mem_of_getElem? hx)
      subst ex el
      refine ⟨_, asg_name _ _ _ _, ?_⟩
      have hbl : m'.list 12 = some (A.bag ++ (ps.take i).map (toL (1 - E))) := by rw [em]; exact list_set_self (list_lt c.bg)
      obtain ⟨z, ez⟩ : ∃ z : Int, z = ((A.bag ++ (ps.take i).map (toL (1 - E))).length : Int) := ⟨_, rfl⟩
      have zl : ¬ 220 < z := by
        rw [ez]
        simp only [List.length_append, List.length_map, List.length_take]
        omega
      have hl2 := len_list hbl ez.symm
      have l2 : ∀ m, bltop .len [.tup [.int J, b]] m = .ok (.int 2) m := fun m => rfl
      have i0 : ∀ m, idxop m (.tup [.int J, b]) (.int 0) = some (.int J) := fun _ => rfl
      have i1 : ∀ m, idxop m (.tup [.int J, b]) (.int 1) = some b := fun _ => rfl
      have s3 : 3 ≤ SZ := by decide
      have ap := bm_app (v := .tup [.int (1 - E), .int J, b]) hbl (by simp only [List.length_append, List.length_map, List.length_take]; unfold SZ; omega)
      refine Flow.by (by simp [b__law_read_1, tyOf, isiK, l2, hl2, zl, i0, i1, s3, recv_list hbl, ap] <;> rfl) ?_
      refine Flow.nx_of ⟨hip, _, rfl, ?_⟩
      rw [em, list_ext_set, List.take_succ, hx]
      simp [toL]) (l := [some (.ref 5), some (.ref 12), some (.int E), none]) (m := m) ⟨Nat.zero_le _, none, rfl, by simp; exact bag_set c⟩
    obtain ⟨l', m', e1, _, x3, el, em⟩ := loop
    rw [List.take_length] at em
    have hbl : m'.list 12 = some (A.bag ++ ps.map (toL (1 - E))) := by rw [em]; exact list_set_self (list_lt c.bg)
    have ln' : m'[1 + 2 * e]? = some (L39.ln (A.k e) (A.s e).length (A.g e)) := by rw [em, List.getElem?_set_ne (show (12 : Nat) ≠ 1 + 2 * e by omega)]; exact c.ln e he
    have a5' : idxop m' (.ref 5) (.int E) = some (.ref (1 + 2 * e)) := by
      have h5 : m'.list 5 = some [.ref 1, .ref 3] := by rw [em, list_set (by decide)]; exact c.l5
      rw [idx_list h5]
      rcases (by omega : e = 0 ∨ e = 1) with rfl | rfl <;> subst eE <;> rfl
    have gt := at_got d ln'
    obtain ⟨G, eG⟩ : ∃ G : Int, G = A.g e := ⟨_, rfl⟩
    rw [← eG] at gt erd
    have s3 : 3 ≤ SZ := by decide
    have ap := bm_app (v := .tup [.int (1 - E), .int 0, .int G]) hbl (by simp only [List.length_append, List.length_map]; unfold SZ; omega)
    subst el
    have ex : execB P (callN P (d + 1)) f__law_read.body (start f__law_read.ns [.ref 5, .ref 12, .int E]) m = .ret (.bool true) (m'.set 12 (.list (A.bag ++ ps.map (toL (1 - E)) ++ [.tup [.int (1 - E), .int 0, .int G]]))) := by
      simp [f__law_read, start, hl, hn, a5, ow, e1, a5', gt, s3, recv_list hbl, ap]
    rw [ex, em, list_ext_set, erd, List.append_assoc]
    refine gc_set0 (list_lt c.bg) ?_ (by simp)
    rw [ob_under]
    refine underL_all fun x hx => ?_
    rcases List.mem_append.mp hx with hx | hx
    · exact okk_under _ (hk x hx)
    · rw [← erd] at hx
      have eD : 1 - E = ((1 - e : Nat) : Int) := by omega
      have hx' : x ∈ rd A e (1 - E) := by rw [show rd A e (1 - E) = ps.map (toL (1 - E)) ++ [.tup [.int (1 - E), .int 0, .int (A.g e)]] by unfold rd; rw [eps], ← eG, ← erd]; exact hx
      exact okk_under _ (lt_okk i (rd_lt i he eD x hx')).1
end

end L39

namespace L39
open Py

def Did (A A' : Ab) (v : Val) : Prop := (∀ (d q : Nat), v = .tup [.int d, .int 0, .int q] → q ≤ A'.dn d) ∧ (∀ (d j : Nat) (b : Val), v = .tup [.int d, .int ((j : Int) + 1), b] → j ≤ A.g d → j + 1 ≤ A'.g d)
structure Nxt (m : Mem) (A : Ab) (v : Val) (m' : Mem) (A' : Ab) : Prop where
  cs : Cs m' A'
  iv : Iv A'
  mono : Mono A A'
  s : A'.s = A.s
  bag : A'.bag = A.bag
  did : Did A A' v
  far : ∀ (j : Nat) (xs : List Val), 13 ≤ j → m.list j = some xs → m'.list j = some xs
theorem run_given (d : Nat) {m : Mem} {A : Ab} (c : Cs m A) (i : Iv A) {v : Val} (hv : Lt A v) : ∃ m' A', callN P (d + 8) "_law_given" [.ref 5, .ref 8, .ref 11, v] m = .ok (.bool true) m' ∧ Nxt m A v m' A' := by
  rw [callN_fn e__law_given rfl]
  have sb : ∀ (b : Bool) m, callN P (d + 7) "_law_same" [.bool b, .bool b] m = .ok (.bool true) m := fun b m => run_same _ _ _ rfl (by simp)
  have si : ∀ (b : Int) m, callN P (d + 7) "_law_same" [.int b, .int b] m = .ok (.bool true) m := fun b m => run_same _ _ _ rfl (by simp)
  have mt2 : P.meth "Line" "take" = some "Line.take" := by kernel_rfl
  have mt3 : P.meth "Line" "acknowledge" = some "Line.acknowledge" := by kernel_rfl
  have lk2 : ∀ k n g, ((lf k n g).lookup ("take" : PySem.Str)).isNone = true := fun _ _ _ => rfl
  have lk3 : ∀ k n g, ((lf k n g).lookup ("acknowledge" : PySem.Str)).isNone = true := fun _ _ _ => rfl
  cases hv with
  | ack e q E Q he eE eQ hq =>
    have a5 := at5 c he eE
    have l1 := c.ln e he
    have hg1 := i.gl (1 - e) (by omega)
    rw [show 1 - (1 - e) = e by omega] at hg1
    have hd1 := i.dl e he
    have hbs := (i.B e he).1
    have ak := run_ack (d + 5) l1 (c.kp e he) (x := Q) (t := q) eQ (by rw [List.length_drop]; omega) (by rw [List.length_drop]; omega)
    have i0 : ∀ m, idxop m (.tup [.int E, .int 0, .int Q]) (.int 0) = some (.int E) := fun _ => rfl
    have i1 : ∀ m, idxop m (.tup [.int E, .int 0, .int Q]) (.int 1) = some (.int 0) := fun _ => rfl
    have i2 : ∀ m, idxop m (.tup [.int E, .int 0, .int Q]) (.int 2) = some (.int Q) := fun _ => rfl
    have gi := l1
    unfold L39.ln at gi
    by_cases q0 : A.dn e < q
    · rw [if_pos q0] at ak
      obtain ⟨M1, eM1⟩ : ∃ M1 : Mem, M1 = (m ++ [Ob.list (prN q (((A.s e).drop (A.dn e)).drop (q - A.dn e)))]).set (1 + 2 * e) (L39.ln m.length (A.s e).length (A.g e)) := ⟨_, rfl⟩
      rw [← eM1] at ak
      have nc := c.acked he q0
      rw [← eM1] at nc
      refine ⟨M1, _, ?_, nc, ⟨i.hp, i.gl, fun j hj => ?_, i.B⟩, ⟨fun _ _ _ h => h, fun _ => Nat.le_refl _, fun j => ?_⟩, rfl, rfl, ⟨fun d' q' h => ?_, fun d' j' b' h => ?_⟩, fun j xs hj hx => ?_⟩
      · have ex : execB P (callN P (d + 7)) f__law_given.body (start f__law_given.ns [.ref 5, .ref 8, .ref 11, .tup [.int E, .int 0, .int Q]]) m = .ret (.bool true) M1 := by
          clear nc
          generalize ((A.s e).length : Int) = N at *
          generalize ((A.g e : Nat) : Int) = G at *
          generalize decide (((A.dn e : Nat) : Int) < Q) = bb at *
          simp [f__law_given, start, i0, i1, i2, a5, gi, mt3, lk3, ak]
        rw [ex]
        have hl : 1 + 2 * e < m.length := (List.getElem?_eq_some_iff.mp l1).1
        refine gc_stay (1 + 2 * e) (L39.ln m.length (A.s e).length (A.g e)) ?_ ?_ ?_
        · rw [List.getElem?_take_of_lt hl, eM1, List.getElem?_set_self (by simp; omega)]
        · rw [l1]
          intro h
          have := list_lt (c.kp e he)
          simp [L39.ln, lf] at h
          omega
        · simp [L39.ln, lf, Ob.under, Val.under]
      · show up A.dn e q j ≤ A.g (1 - j)
        by_cases z : j = e
        · subst z; rw [up_self]; exact hq
        · rw [up_ne _ _ z]; exact i.dl j hj
      · show A.dn j ≤ up A.dn e q j
        by_cases z : j = e
        · subst z; rw [up_self]; omega
        · rw [up_ne _ _ z]; exact Nat.le_refl _
      · simp only [Val.tup.injEq, List.cons.injEq, Val.int.injEq] at h
        have e1 : d' = e := by omega
        have e2 : q' = q := by omega
        subst e1 e2
        show _ ≤ up A.dn _ _ _
        rw [up_self]; exact Nat.le_refl _
      · simp only [Val.tup.injEq, List.cons.injEq, Val.int.injEq] at h
        omega
      · rw [eM1, list_set (by omega)]
        exact list_app hx
    · rw [if_neg q0] at ak
      refine ⟨m, A, ?_, c, i, Mono.refl A, rfl, rfl, ⟨fun d' q' h => ?_, fun d' j' b' h => ?_⟩, fun j xs hj hx => hx⟩
      · have ex : execB P (callN P (d + 7)) f__law_given.body (start f__law_given.ns [.ref 5, .ref 8, .ref 11, .tup [.int E, .int 0, .int Q]]) m = .ret (.bool true) m := by
          generalize ((A.s e).length : Int) = N at *
          generalize ((A.g e : Nat) : Int) = G at *
          generalize decide (((A.dn e : Nat) : Int) < Q) = bb at *
          simp [f__law_given, start, i0, i1, i2, a5, gi, mt3, lk3, ak]
        rw [ex]
        exact gc_same (by simp)
      · simp only [Val.tup.injEq, List.cons.injEq, Val.int.injEq] at h
        have e1 : d' = e := by omega
        have e2 : q' = q := by omega
        subst e1 e2
        omega
      · simp only [Val.tup.injEq, List.cons.injEq, Val.int.injEq] at h
        omega
  | data e j E J b he eE eJ hb =>
    have a5 := at5 c he eE
    have a11 := at11 c he eE
    have a8 : idxop m (.ref 8) (.int (1 - E)) = some (.ref (6 + (1 - e))) := at8 c (by omega) (by omega)
    have l1 := c.ln e he
    have rw1 := c.tk e he
    have ot := c.sn (1 - e) (by omega)
    have hgl := i.gl e he
    have hBo := i.B (1 - e) (by omega)
    have hok := hBo.2 b (List.mem_of_getElem? hb)
    have hjl : j < (A.s (1 - e)).length := (List.getElem?_eq_some_iff.mp hb).1
    have i0 : ∀ m, idxop m (.tup [.int E, .int J, b]) (.int 0) = some (.int E) := fun _ => rfl
    have i1 : ∀ m, idxop m (.tup [.int E, .int J, b]) (.int 1) = some (.int J) := fun _ => rfl
    have i2 : ∀ m, idxop m (.tup [.int E, .int J, b]) (.int 2) = some b := fun _ => rfl
    have jn : (J == 0) = false := beq_eq_false_iff_ne.mpr (by omega)
    obtain ⟨G, eG⟩ : ∃ G : Int, G = A.g e := ⟨_, rfl⟩
    have ln1 : bltop .len [.ref (9 + e)] m = .ok (.int G) m := len_list rw1 (by rw [List.length_take, eG]; omega)
    obtain ⟨O, eO⟩ : ∃ O : Int, O = (A.s (1 - e)).length := ⟨_, rfl⟩
    have ln2 : bltop .len [.ref (6 + (1 - e))] m = .ok (.int O) m := len_list ot eO.symm
    have hkl := list_lt (c.kp e he)
    have h9 := list_lt rw1
    have gi := l1
    unfold L39.ln at gi
    by_cases q0 : j = A.g e
    · have due : (J == G + 1) = true := beq_iff_eq.mpr (by omega)
      have nge : ¬ O ≤ G := by omega
      have ix : idxop m (.ref (6 + (1 - e))) (.int G) = some b := by
        rw [idx_list ot, at_nat (by omega) (by omega)]
        rw [List.getElem?_eq_getElem hjl] at hb
        cases hb
        congr 1
        congr 1
        omega
      have sm : callN P (d + 7) "_law_same" [b, b] m = .ok (.bool true) m := run_same _ _ _ hok.1 (by have := hok.2; omega)
      have ap := bm_app (v := b) rw1 (by rw [List.length_take]; have := hBo.1; unfold SZ; omega)
      obtain ⟨M1, eM1⟩ : ∃ M1 : Mem, M1 = m.set (9 + e) (.list ((A.s (1 - e)).take (A.g e) ++ [b])) := ⟨_, rfl⟩
      rw [← eM1] at ap
      have l1M : M1[1 + 2 * e]? = some (L39.ln (A.k e) (A.s e).length (A.g e)) := by rw [eM1, List.getElem?_set_ne (show 9 + e ≠ 1 + 2 * e by omega)]; exact l1
      have hlM : M1.length = m.length := by rw [eM1]; simp
      have tk := run_take (d + 5) J l1M (by rw [hlM]; exact hkl)
      rw [← eG] at tk
      rw [due, if_pos rfl] at tk
      obtain ⟨M2, eM2⟩ : ∃ M2 : Mem, M2 = M1.set (1 + 2 * e) (L39.ln (A.k e) (A.s e).length J) := ⟨_, rfl⟩
      rw [← eM2] at tk
      have hbg : (A.s (1 - e))[A.g e]? = some b := by rw [← q0]; exact hb
      have nc := c.took he hbg (t := J) (by omega)
      rw [← eM1, ← eM2] at nc
      have a5' := at5 nc he eE
      have a5M : idxop M1 (.ref 5) (.int E) = some (.ref (1 + 2 * e)) := by
        have h5 : M1.list 5 = some [.ref 1, .ref 3] := by rw [eM1, list_set (by omega)]; exact c.l5
        rw [idx_list h5]
        rcases (by omega : e = 0 ∨ e = 1) with rfl | rfl <;> subst eE <;> rfl
      have gt := at_got (d + 6) (nc.ln e he)
      have gg : ((up A.g e (A.g e + 1) e : Nat) : Int) = J := by rw [up_self]; omega
      have gt' : attrP P (callN P (d + 7)) "got" (.ref (1 + 2 * e)) M2 = .ok (.int J) M2 := by
        rw [← gg]; exact gt
      have ln3 : bltop .len [.ref (9 + e)] M2 = .ok (.int J) M2 := len_list (nc.tk e he) (by
        show (((A.s (1 - e)).take (up A.g e (A.g e + 1) e)).length : Int) = J
        rw [up_self, List.length_take]; omega)
      have giM := l1M
      unfold L39.ln at giM
      refine ⟨M2, _, ?_, nc, ⟨i.hp, fun j' hj' => ?_, fun j' hj' => ?_, i.B⟩, ⟨fun _ _ _ h => h, fun j' => ?_, fun _ => Nat.le_refl _⟩, rfl, rfl, ⟨fun d' q' h => ?_, fun d' j' b' h => ?_⟩, fun j' xs hj' hx => ?_⟩
      · have ex : execB P (callN P (d + 7)) f__law_given.body (start f__law_given.ns [.ref 5, .ref 8, .ref 11, .tup [.int E, .int J, b]]) m = .ret (.bool true) M2 := by
          clear nc
          generalize ((A.s e).length : Int) = N at *
          generalize ((A.g e : Nat) : Int) = GG at *
          simp [f__law_given, start, i0, i1, i2, jn, a11, a8, ln1, due, ln2, nge, ix, sm, recv_list rw1, ap, a5M, giM, mt2, lk2, tk, sb, a5', gt', ln3, si]
        rw [ex, eM2, eM1]
        refine gc_set2 ?_ (ln_under hkl _ _) (by simp)
        rw [ob_under]
        refine underL_all fun x hx => ?_
        rcases List.mem_append.mp hx with hx | hx
        · exact okk_under _ (hBo.2 x (List.mem_of_mem_take hx)).1
        · rw [List.mem_singleton.mp hx]; exact okk_under _ hok.1
      · show up A.g e (A.g e + 1) j' ≤ (A.s (1 - j')).length
        by_cases z : j' = e
        · subst z; rw [up_self]; omega
        · rw [up_ne _ _ z]; exact i.gl j' hj'
      · show A.dn j' ≤ up A.g e (A.g e + 1) (1 - j')
        have := i.dl j' hj'
        by_cases z : 1 - j' = e
        · rw [z, up_self]; rw [z] at this; omega
        · rw [up_ne _ _ z]; exact this
      · show A.g j' ≤ up A.g e (A.g e + 1) j'
        by_cases z : j' = e
        · subst z; rw [up_self]; omega
        · rw [up_ne _ _ z]; exact Nat.le_refl _
      · simp only [Val.tup.injEq, List.cons.injEq, Val.int.injEq] at h
        omega
      · intro hj'
        simp only [Val.tup.injEq, List.cons.injEq, Val.int.injEq] at h
        have e1 : d' = e := by omega
        subst e1
        show j' + 1 ≤ up A.g _ _ _
        rw [up_self]; omega
      · rw [eM2, list_set (by omega), eM1, list_set (by omega)]
        exact hx
    · have due : (J == G + 1) = false := beq_eq_false_iff_ne.mpr (by omega)
      have tk := run_take (d + 5) J l1 hkl
      rw [← eG] at tk
      rw [due, if_neg (by decide)] at tk
      have gt : attrP P (callN P (d + 7)) "got" (.ref (1 + 2 * e)) m = .ok (.int G) m := by rw [eG]; exact at_got (d + 6) l1
      refine ⟨m, A, ?_, c, i, Mono.refl A, rfl, rfl, ⟨fun d' q' h => ?_, fun d' j' b' h => ?_⟩, fun j xs hj hx => hx⟩
      · have ex : execB P (callN P (d + 7)) f__law_given.body (start f__law_given.ns [.ref 5, .ref 8, .ref 11, .tup [.int E, .int J, b]]) m = .ret (.bool true) m := by
          generalize ((A.s e).length : Int) = N at *
          generalize ((A.g e : Nat) : Int) = GG at *
          simp [f__law_given, start, i0, i1, i2, jn, a11, a8, ln1, due, a5, gi, mt2, lk2, tk, sb, gt, si]
        rw [ex]
        exact gc_same (by simp)
      · simp only [Val.tup.injEq, List.cons.injEq, Val.int.injEq] at h
        omega
      · intro hj'
        simp only [Val.tup.injEq, List.cons.injEq, Val.int.injEq] at h
        have e1 : d' = e := by omega
        subst e1
        omega

end L39

namespace L39
open Py

/-- a state of the law: i turns are done -/
structure St (i : Nat) (m : Mem) (A : Ab) : Prop where
  c : Cs m A
  v : Iv A
  n : ∀ e, e < 2 → (A.s e).length ≤ i
  b : A.bag.length ≤ 230
  t : ∀ x ∈ A.bag, Lt A x
theorem St.up {i : Nat} {m : Mem} {A : Ab} (s : St i m A) : St (i + 1) m A := ⟨s.c, s.v, fun e he => Nat.le_succ_of_le (s.n e he), s.b, s.t⟩
theorem St.ok {i : Nat} {m : Mem} {A : Ab} (s : St i m A) : ∀ x ∈ A.bag, okk x = true := fun x hx => (lt_okk s.v (s.t x hx)).1
theorem St.pool {i : Nat} {m : Mem} {A : Ab} (s : St i m A) {ys : List Int} (h : Pl ys) : St i (pw m 0 ys) { A with xs := ys } :=
  ⟨s.c.pool ys, ⟨h, s.v.gl, s.v.dl, s.v.B⟩, s.n, s.b, fun x hx => Lt.mono (A := A) (A' := { A with xs := ys }) ⟨fun _ _ _ h => h, fun _ => Nat.le_refl _, fun _ => Nat.le_refl _⟩ (s.t x hx)⟩
theorem St.app {i : Nat} {m : Mem} {A : Ab} (s : St i m A) (G : Mem) : St i (m ++ G) A := ⟨s.c.app G, s.v, s.n, s.b, s.t⟩
theorem St.bagged {i : Nat} {m : Mem} {A : Ab} (s : St i m A) {b : List Val} (h1 : b.length ≤ 230) (h2 : ∀ x ∈ b, Lt A x) : St i (m.set 12 (.list b)) { A with bag := b } :=
  ⟨s.c.bagged b, ⟨s.v.hp, s.v.gl, s.v.dl, s.v.B⟩, s.n, h1, fun x hx => Lt.mono (A := A) (A' := { A with bag := b }) ⟨fun _ _ _ h => h, fun _ => Nat.le_refl _, fun _ => Nat.le_refl _⟩ (h2 x hx)⟩
theorem St.given {i : Nat} {m m' : Mem} {A A' : Ab} {v : Val} (s : St i m A) (n : Nxt m A v m' A') : St i m' A' :=
  ⟨n.cs, n.iv, fun e he => by rw [n.s]; exact s.n e he, by rw [n.bag]; exact s.b, fun x hx => by rw [n.bag] at hx; exact (s.t x hx).mono n.mono⟩
theorem rd_len {A : Ab} (e : Nat) (D : Int) : (rd A e D).length ≤ (A.s e).length + 1 := by
  unfold rd
  rw [List.length_append, List.length_map, prN_len, List.length_drop]
  show _ + 1 ≤ _
  omega
theorem St.read {i : Nat} {m : Mem} {A : Ab} (s : St i m A) (hi : i ≤ 70) (d : Nat) {e : Nat} (he : e < 2) {E : Int} (eE : E = e) :
    ∃ b, callN P (d + 2) "_law_read" [.ref 5, .ref 12, .int E] m = .ok (.bool true) (m.set 12 (.list b)) ∧ St i (m.set 12 (.list b)) { A with bag := b } ∧ (A.bag.length ≤ 150 → b = A.bag ++ rd A e (1 - E)) := by
  obtain ⟨b, e1, h1, h2⟩ := run_read d s.c s.v he eE s.b (Nat.le_trans (s.n e he) hi) s.ok
  have hn := s.n e he
  have hr := rd_len (A := A) e (1 - E)
  have eD : 1 - E = ((1 - e : Nat) : Int) := by omega
  refine ⟨b, e1, s.bagged ?_ ?_, h2⟩
  · by_cases q : A.bag.length ≤ 150
    · rw [h2 q, List.length_append]; omega
    · rcases h1 with h | h
      · rw [h]; exact s.b
      · exact absurd h.1 q
  · intro x hx
    rcases h1 with h | h
    · rw [h] at hx; exact s.t x hx
    · rw [h.2] at hx
      rcases List.mem_append.mp hx with hx | hx
      · exact s.t x hx
      · exact rd_lt s.v he eD x hx

end L39

namespace L39
open Py

def Lc (ns : List Int) (x6 x7 x8 x9 x10 x11 x12 : Option Val) : Loc := [some (.fro ns), some (.ref 0), some (.ref 5), some (.ref 8), some (.ref 11), some (.ref 12), x6, x7, x8, x9, x10, x11, x12]
def Inv (ns : List Int) (i : Nat) (l : Loc) (m : Mem) : Prop := ∃ A x6 x7 x8 x9 x10 x11 x12, St i m A ∧ l = Lc ns x6 x7 x8 x9 x10 x11 x12
theorem bm_popAt {m : Mem} {k : Nat} {i : Int} {xs : List Val} (h : m.list k = some xs) (h0 : 0 ≤ i) (hi : i.toNat < xs.length) (hb : i < 100000) : bmop .pop (.ref k) [.int i] m = .ok xs[i.toNat] (m.set k (.list (xs.eraseIdx i.toNat))) := by
  unfold bmop
  simp only [h]
  have e : ((ixOf xs.length i).bind fun j => (xs[j]?).map fun y => (j, y)) = some (i.toNat, xs[i.toNat]) := by
    rw [ixOf_nat h0 hi]
    simp [hi]
  rw [e]
  simp only
  rw [if_pos (by omega)]
theorem turn (ns : List Int) (i : Nat) (hi : i < 70) {l : Loc} {m : Mem} (x : Int) (h : Inv ns i l m) : (execB P (callN P 11) b_law_1 (l.set 6 (some (.int x))) m).P (Inv ns (i + 1)) (fun _ _ => False) := by
  obtain ⟨A, x6, x7, x8, x9, x10, x11, x12, s, el⟩ := h
  have r0 : 0 < m.length := list_lt s.c.p0
  have em := pw_self s.c.p0
  obtain ⟨w, z1, p1, q1, h1, e1⟩ := draw 10 m r0 s.v.hp 8 (by decide)
  have e1' : callN P 11 "_law_draw" [.ref 0, .int 8] m = .ok (.int w) (pw m 0 z1) := by rw [← em] at e1; exact e1
  obtain ⟨E, z2, p2, q2, h2, e2⟩ := draw 10 m r0 h1 2 (by decide)
  have hgc : ∀ (a b : List Int) (y : Int), gc (pw m 0 a) (.ok (.int y) (pw m 0 b)) = .ok (.int y) (pw m 0 b) := fun a b y => gc_pw r0 a b fun n => by simp
  have mt1 : P.meth "Line" "send" = some "Line.send" := by kernel_rfl
  have lk1 : ∀ k n g, ((lf k n g).lookup ("send" : PySem.Str)).isNone = true := fun _ _ _ => rfl
  obtain ⟨e, eE, he⟩ : ∃ e : Nat, E = e ∧ e < 2 := ⟨E.toNat, by omega, by omega⟩
  subst el
  by_cases c1 : w < 2
  · obtain ⟨v, z3, ok, dp, h3, e3⟩ := run_body 9 m r0 h2
    have s3 := s.pool h3
    obtain ⟨M, eM⟩ : ∃ M : Mem, M = pw m 0 z3 := ⟨_, rfl⟩
    rw [← eM] at e3 s3
    have a8 := at8 s3.c he eE
    have rw1 := s3.c.sn e he
    have hn := s.n e he
    have ap := bm_app (v := v) rw1 (by show (A.s e).length < SZ; unfold SZ; omega)
    obtain ⟨M1, eM1⟩ : ∃ M1 : Mem, M1 = M.set (6 + e) (.list (A.s e ++ [v])) := ⟨_, rfl⟩
    have ap' : bmop .append (.ref (6 + e)) [v] M = .ok .none M1 := by rw [eM1]; exact ap
    have l1 : M1[1 + 2 * e]? = some (L39.ln (A.k e) (A.s e).length (A.g e)) := by rw [eM1, List.getElem?_set_ne (show 6 + e ≠ 1 + 2 * e by omega)]; exact s3.c.ln e he
    have kd := s.c.kd e he
    have hk : M1.list (A.k e) = some (prN (A.dn e) ((A.s e).drop (A.dn e))) := by rw [eM1, list_set (by omega)]; exact s3.c.kp e he
    have sd := run_send 10 v l1 hk (by rw [prN_len, List.length_drop]; omega) (prN_okk ⟨by rw [List.length_drop]; omega, fun b hb => (s.v.B e he).2 b (List.mem_of_mem_drop hb)⟩) ok
    have nc := s3.c.sent s3.v he v (n := ((A.s e).length : Int)) rfl
    obtain ⟨M2, eM2⟩ : ∃ M2 : Mem, M2 = (M1.set (1 + 2 * e) (L39.ln (A.k e) (((A.s e).length : Int) + 1) (A.g e))).set (A.k e) (.list (prN (A.dn e) ((A.s e).drop (A.dn e)) ++ [.tup [.int (((A.s e).length : Int) + 1), v]])) := ⟨_, rfl⟩
    rw [← eM2] at sd
    have nc' : Cs M2 { A with xs := z3, s := L39.up A.s e (A.s e ++ [v]) } := by rw [eM2, eM1]; exact nc
    have a5 : idxop M1 (.ref 5) (.int E) = some (.ref (1 + 2 * e)) := by
      have h5 : M1.list 5 = some [.ref 1, .ref 3] := by rw [eM1, list_set (by omega)]; exact s3.c.l5
      rw [idx_list h5]
      rcases (by omega : e = 0 ∨ e = 1) with rfl | rfl <;> subst eE <;> rfl
    have mo : Mono A { A with xs := z3, s := L39.up A.s e (A.s e ++ [v]) } := ⟨fun e' j b h => by
      show (L39.up A.s e (A.s e ++ [v]) e')[j]? = some b
      by_cases z : e' = e
      · subst z
        rw [up_self, List.getElem?_append_left (List.getElem?_eq_some_iff.mp h).1]; exact h
      · rw [up_ne _ _ z]; exact h, fun _ => Nat.le_refl _, fun _ => Nat.le_refl _⟩
    have le : ∀ j, (A.s j).length ≤ (L39.up A.s e (A.s e ++ [v]) j).length := fun j => by
      by_cases z : j = e
      · subst z; rw [up_self]; simp
      · rw [up_ne _ _ z]; exact Nat.le_refl _
    have nw : St (i + 1) M2 { A with xs := z3, s := L39.up A.s e (A.s e ++ [v]) } := by
      refine ⟨nc', ⟨h3, fun j hj => Nat.le_trans (s.v.gl j hj) (le _), s.v.dl, fun j hj => ?_⟩, fun j hj => ?_, s.b, fun x hx => (s.t x hx).mono mo⟩
      · show Bds (L39.up A.s e (A.s e ++ [v]) j)
        by_cases z : j = e
        · subst z; rw [up_self]; exact (s.v.B j hj).snoc (by omega) ok dp
        · rw [up_ne _ _ z]; exact s.v.B j hj
      · show (L39.up A.s e (A.s e ++ [v]) j).length ≤ i + 1
        have := s.n j hj
        by_cases z : j = e
        · subst z; rw [up_self]; simp; omega
        · rw [up_ne _ _ z]; omega
    have l1' := l1
    unfold L39.ln at l1'
    have ex : execB P (callN P 11) b_law_1 ((Lc ns x6 x7 x8 x9 x10 x11 x12).set 6 (some (.int x))) m = .nx (Lc ns (some (.int x)) (some (.int w)) (some (.int E)) (some v) (some (.ref (6 + e))) x11 x12) M2 := by
      clear nw nc nc' mo le eM2
      generalize (((A.s e).length : Nat) : Int) = N at *
      generalize ((A.g e : Nat) : Int) = G at *
      simp [b_law_1, Lc, e1', e2, c1, e3, ← eM, a8, recv_list rw1, ap', a5, l1', mt1, lk1, sd]
    rw [ex]
    exact Flow.nx_of ⟨_, _, _, _, _, _, _, _, nw, rfl⟩
  · by_cases c2 : w < 4
    · have s2 := s.pool h2
      obtain ⟨b, er, sr, _⟩ := s2.read (by omega) 9 he eE
      have er' : callN P 11 "_law_read" [.ref 5, .ref 12, .int E] (pw m 0 z2) = .ok (.bool true) ((pw m 0 z2).set 12 (.list b)) := er
      refine Flow.by (by simp [b_law_1, Lc, e1', e2, c1, c2, er'] <;> rfl) ?_
      exact Flow.nx_of ⟨_, _, _, _, _, _, _, _, sr.up, rfl⟩
    · have s2 := s.pool h2
      have bl := len_list s2.c.bg rfl
      obtain ⟨n, en⟩ : ∃ n : Int, n = (A.bag.length : Int) := ⟨_, rfl⟩
      have bl' : bltop .len [.ref 12] (pw m 0 z2) = .ok (.int n) (pw m 0 z2) := by rw [en]; exact bl
      have hb := s.b
      by_cases c3 : 0 < n
      · obtain ⟨y, z3, p3, q3, h3, e3⟩ := draw 10 m r0 h2 2520 (by decide)
        have s3 := s.pool h3
        have bl3 : bltop .len [.ref 12] (pw m 0 z3) = .ok (.int n) (pw m 0 z3) := len_list s3.c.bg en.symm
        obtain ⟨a, ea, a0, a1⟩ : ∃ a : Int, y % n = a ∧ 0 ≤ a ∧ a < n := ⟨_, rfl, mod_lo _ _ c3, mod_hi _ _ c3⟩
        have al : a.toNat < A.bag.length := by omega
        cases c4 : (w == 7) with
        | true =>
          have w7 : w = 7 := eq_of_beq c4
          have c5 : ¬ w < 7 := by omega
          obtain ⟨y2, z4, p4, q4, h4, e4⟩ := draw 10 m r0 h3 2 (by decide)
          have s4 := s.pool h4
          have bl4 : bltop .len [.ref 12] (pw m 0 z4) = .ok (.int n) (pw m 0 z4) := len_list s4.c.bg en.symm
          have ix : idxop (pw m 0 z4) (.ref 12) (.int a) = some A.bag[a.toNat] := by rw [idx_list s4.c.bg, at_nat a0 al]
          have pp : bmop .pop (.ref 12) [.int a] (pw m 0 z4) = .ok A.bag[a.toNat] ((pw m 0 z4).set 12 (.list (A.bag.eraseIdx a.toNat))) := bm_popAt s4.c.bg a0 al (by omega)
          have se : St i ((pw m 0 z4).set 12 (.list (A.bag.eraseIdx a.toNat))) { A with xs := z4, bag := A.bag.eraseIdx a.toNat } := s4.bagged (Nat.le_trans (List.length_eraseIdx_le _ _) hb) (fun v hv => s4.t v (List.mem_of_mem_eraseIdx hv))
          by_cases c6 : y2 = 0 ∧ n ≤ 150
          · have d1 : (y2 == 0) = true := beq_iff_eq.mpr c6.1
            have ap : bmop .append (.ref 12) [A.bag[a.toNat]] (pw m 0 z4) = .ok .none ((pw m 0 z4).set 12 (.list (A.bag ++ [A.bag[a.toNat]]))) := bm_app s4.c.bg (by show A.bag.length < SZ; unfold SZ; omega)
            have sa : St i ((pw m 0 z4).set 12 (.list (A.bag ++ [A.bag[a.toNat]]))) { A with xs := z4, bag := A.bag ++ [A.bag[a.toNat]] } := s4.bagged (by rw [List.length_append]; show _ + 1 ≤ _; omega) (fun v hv => by
              rcases List.mem_append.mp hv with hv | hv
              · exact s4.t v hv
              · rw [List.mem_singleton.mp hv]; exact s4.t _ (List.getElem_mem _))
            generalize A.bag[a.toNat] = bv at *
            refine Flow.by (by simp [b_law_1, Lc, e1', e2, c1, c2, bl', c3, e3, hgc, bl3, op_modI c3, ea, c4, e4, d1, bl4, c6.2, ix, recv_list s4.c.bg, ap] <;> rfl) ?_
            exact Flow.nx_of ⟨_, _, _, _, _, _, _, _, sa.up, rfl⟩
          · cases d1 : (y2 == 0) with
            | true =>
              have d2 : ¬ n ≤ 150 := fun h => c6 ⟨eq_of_beq d1, h⟩
              generalize A.bag[a.toNat] = bv at *
              refine Flow.by (by simp [b_law_1, Lc, e1', e2, c1, c2, bl', c3, e3, hgc, bl3, op_modI c3, ea, c4, e4, d1, bl4, d2, recv_list s4.c.bg, pp, c5] <;> rfl) ?_
              exact Flow.nx_of ⟨_, _, _, _, _, _, _, _, se.up, rfl⟩
            | false =>
              generalize A.bag[a.toNat] = bv at *
              refine Flow.by (by simp [b_law_1, Lc, e1', e2, c1, c2, bl', c3, e3, hgc, bl3, op_modI c3, ea, c4, e4, d1, recv_list s4.c.bg, pp, c5] <;> rfl) ?_
              exact Flow.nx_of ⟨_, _, _, _, _, _, _, _, se.up, rfl⟩
        | false =>
          have c5 : w < 7 := by
            have : w ≠ 7 := fun h => by rw [h] at c4; cases c4
            omega
          have pp : bmop .pop (.ref 12) [.int a] (pw m 0 z3) = .ok A.bag[a.toNat] ((pw m 0 z3).set 12 (.list (A.bag.eraseIdx a.toNat))) := bm_popAt s3.c.bg a0 al (by omega)
          have se : St i ((pw m 0 z3).set 12 (.list (A.bag.eraseIdx a.toNat))) { A with xs := z3, bag := A.bag.eraseIdx a.toNat } := s3.bagged (Nat.le_trans (List.length_eraseIdx_le _ _) hb) (fun v hv => s3.t v (List.mem_of_mem_eraseIdx hv))
          have lv : Lt { A with xs := z3, bag := A.bag.eraseIdx a.toNat } A.bag[a.toNat] := Lt.mono (A := A) (A' := { A with xs := z3, bag := A.bag.eraseIdx a.toNat }) ⟨fun _ _ _ h => h, fun _ => Nat.le_refl _, fun _ => Nat.le_refl _⟩ (s.t _ (List.getElem_mem _))
          obtain ⟨m', A', eg, nx⟩ := run_given 3 se.c se.v lv
          have sg := se.given nx
          have eg' : callN P 11 "_law_given" [.ref 5, .ref 8, .ref 11, A.bag[a.toNat]] ((pw m 0 z3).set 12 (.list (A.bag.eraseIdx a.toNat))) = .ok (.bool true) m' := eg
          clear nx eg lv
          generalize A.bag[a.toNat] = bv at *
          refine Flow.by (by simp [b_law_1, Lc, e1', e2, c1, c2, bl', c3, e3, hgc, bl3, op_modI c3, ea, c4, recv_list s3.c.bg, pp, c5, eg'] <;> rfl) ?_
          exact Flow.nx_of ⟨_, _, _, _, _, _, _, _, sg.up, rfl⟩
      · refine Flow.by (by simp [b_law_1, Lc, e1', e2, c1, c2, bl', c3] <;> rfl) ?_
        exact Flow.nx_of ⟨_, _, _, _, _, _, _, _, s2.up, rfl⟩

end L39

namespace L39
open Py

theorem for_one {t : Tg} {b : Loc → Mem → Flow} {x : Val} {xs : List Val} {l l1 l2 : Loc} {m m2 : Mem} (h1 : assignT m t x l = some l1) (h2 : b l1 m = .nx l2 m2) : forLoop none t b (x :: xs) l m = forLoop none t b xs l2 m2 := by
  rw [forLoop, if_pos (still_none _), h1]
  simp only [h2]
theorem for_nil {t : Tg} {b : Loc → Mem → Flow} {l : Loc} {m : Mem} : forLoop none t b [] l m = .nx l m := by
  rw [forLoop, if_pos (still_none _)]
theorem rd_get {A : Ab} {e : Nat} {D : Int} {j : Nat} {v : Val} (h : (rd A e D)[j]? = some v) :
    (j < (A.s e).length - A.dn e ∧ ∃ b, v = .tup [.int D, .int (((A.dn e + j : Nat) : Int) + 1), b]) ∨ (j = (A.s e).length - A.dn e ∧ v = .tup [.int D, .int 0, .int (A.g e)]) := by
  unfold rd at h
  have hl : ((prN (A.dn e) ((A.s e).drop (A.dn e))).map (toL D)).length = (A.s e).length - A.dn e := by rw [List.length_map, prN_len, List.length_drop]
  by_cases q : j < (A.s e).length - A.dn e
  · rw [List.getElem?_append_left (by rw [hl]; exact q), prN_rng, List.getElem?_map, List.getElem?_map] at h
    have hr : (List.range ((A.s e).drop (A.dn e)).length)[j]? = some j := by
      rw [List.getElem?_range]
      rw [List.length_drop]; exact q
    rw [hr] at h
    simp only [Option.map_some, Option.some.injEq] at h
    exact .inl ⟨q, _, h.symm⟩
  · rw [List.getElem?_append_right (by rw [hl]; omega), hl] at h
    have : j - ((A.s e).length - A.dn e) = 0 := by
      cases q2 : j - ((A.s e).length - A.dn e) with
      | zero => rfl
      | succ k => rw [q2] at h; simp at h
    rw [this] at h
    simp only [List.getElem?_cons_zero, Option.some.injEq] at h
    exact .inr ⟨by omega, h.symm⟩
theorem rd_length {A : Ab} (e : Nat) (D : Int) : (rd A e D).length = (A.s e).length - A.dn e + 1 := by
  unfold rd
  rw [List.length_append, List.length_map, prN_len, List.length_drop]
  rfl
structure Pg (A A' : Ab) (j : Nat) : Prop where
  s : A'.s = A.s
  mo : Mono A A'
  a : A.dn 0 + min j ((A.s 0).length - A.dn 0) ≤ A'.g 1
  b : A.dn 1 + min (j - ((A.s 0).length - A.dn 0 + 1)) ((A.s 1).length - A.dn 1) ≤ A'.g 0
  c : (A.s 0).length - A.dn 0 < j → A.g 0 ≤ A'.dn 1
  d : (A.s 0).length - A.dn 0 + 1 + ((A.s 1).length - A.dn 1) < j → A.g 1 ≤ A'.dn 0
theorem Pg.step {A A1 A2 : Ab} {m m' : Mem} {j : Nat} {v : Val} (p : Pg A A1 j) (h : (rd A 0 1 ++ rd A 1 0)[j]? = some v) (n : Nxt m A1 v m' A2) : Pg A A2 (j + 1) := by
  have mo := p.mo.trans n.mono
  have g1 := n.mono.g 1
  have g0 := n.mono.g 0
  have d1 := n.mono.dn 1
  have d0 := n.mono.dn 0
  have pa := p.a
  have pb := p.b
  have pc := p.c
  have pd := p.d
  obtain ⟨k1, k2⟩ := n.did
  have hl := rd_length (A := A) 0 1
  refine ⟨n.s.trans p.s, mo, ?_, ?_, ?_, ?_⟩
  all_goals by_cases q : j < (A.s 0).length - A.dn 0 + 1
  all_goals (first
    | rw [List.getElem?_append_left (by rw [hl]; exact q)] at h
    | rw [List.getElem?_append_right (by rw [hl]; omega), hl] at h)
  all_goals (rcases rd_get h with ⟨z1, b, z2⟩ | ⟨z1, z2⟩)
  all_goals first
    | omega
    | (have w := k2 1 _ b z2 (by omega); omega)
    | (have w := k2 0 _ b z2 (by omega); omega)
    | (have w := k1 1 _ z2; omega)
    | (have w := k1 0 _ z2; omega)

end L39

namespace L39
open Py

/-- the bag is read from both ends, and all of it is given -/
theorem round (ns : List Int) {i : Nat} (hi : i ≤ 70) {m : Mem} {A : Ab} (s : St i m A) (x6 x7 x8 x9 x10 x11 x12 : Option Val) :
    ∃ m' A' x12', execB P (callN P 11) b_law_3 (Lc ns x6 x7 x8 x9 x10 x11 x12) m = .nx (Lc ns x6 x7 x8 x9 x10 x11 x12') m' ∧ St i m' A' ∧ A'.s = A.s ∧ (∀ e, e < 2 → (A.s e).length ≤ A'.g (1 - e)) ∧ (∀ e, e < 2 → A.g e ≤ A'.dn (1 - e)) := by
  have cl : bmop .clear (.ref 12) [] m = .ok .none (m.set 12 (.list [])) := by
    unfold bmop; simp only [s.c.bg]
  have s0 : St i (m.set 12 (.list [])) { A with bag := [] } := s.bagged (by decide) (fun x hx => by cases hx)
  obtain ⟨b0, e0, r0, q0⟩ := s0.read hi 9 (e := 0) (by decide) (E := 0) rfl
  have q0' := q0 (by show 0 ≤ 150; decide)
  obtain ⟨b1, e1, r1, q1⟩ := r0.read hi 9 (e := 1) (by decide) (E := 1) rfl
  have l0 := rd_length (A := A) 0 1
  have n0 := s.n 0 (by decide)
  have q1' := q1 (by
    show b0.length ≤ 150
    rw [q0']
    show (([] : List Val) ++ rd A 0 1).length ≤ 150
    rw [List.nil_append, l0]; omega)
  have eb : b1 = rd A 0 1 ++ rd A 1 0 := by rw [q1']; show b0 ++ rd A 1 0 = _; rw [q0']; rfl
  rw [list_ext_set, list_ext_set] at e1 r1
  rw [list_ext_set] at e0
  obtain ⟨M, eM⟩ : ∃ M : Mem, M = m.set 12 (.list b1) := ⟨_, rfl⟩
  obtain ⟨M0, eM0⟩ : ∃ M0 : Mem, M0 = m.set 12 (.list b0) := ⟨_, rfl⟩
  obtain ⟨Mc, eMc⟩ : ∃ Mc : Mem, Mc = m.set 12 (.list []) := ⟨_, rfl⟩
  rw [← eM] at e1 r1
  have e0' : callN P 11 "_law_read" [.ref 5, .ref 12, .int 0] Mc = .ok (.bool true) M0 := by rw [eMc, eM0]; exact e0
  have e1' : callN P 11 "_law_read" [.ref 5, .ref 12, .int 1] M0 = .ok (.bool true) M := by rw [eM0]; exact e1
  rw [← eMc] at cl
  have r1' : St i M { A with bag := b1 } := r1
  have hbg : M.list 12 = some b1 := r1'.c.bg
  have bl : bltop .list [.ref 12] M = .ok (.ref M.length) (M ++ [.list b1]) := blt_list (seq_list hbg)
  have gl : gc M (.ok (.ref M.length) (M ++ [.list b1])) = .ok (.ref M.length) (M ++ [.list b1]) := gc_ref (Nat.le_refl _) (get_new _ _) (by rw [ob_under]; exact underL_all fun x hx => okk_under _ (r1'.ok x hx))
  have hc : 13 ≤ M.length := by have := list_lt hbg; omega
  have s2 := r1'.app [.list b1]
  have loop := for_all (chk := some (M.length, b1)) (t := .name 12) (b := execB P (callN P 11) b_law_2) (xs := b1)
    (fun j l m' => ∃ A' x12', St i m' A' ∧ l = Lc ns x6 x7 x8 x9 x10 x11 x12' ∧ m'.list M.length = some b1 ∧ Pg A A' j)
    (fun j l m' h => by obtain ⟨_, _, _, _, h, _⟩ := h; exact h) (fun j x l m' hx h => by
      obtain ⟨A1, x12', sA, el, hm, pg⟩ := h
      subst el
      refine ⟨_, asg_name _ _ _ _, ?_⟩
      have lx : Lt A1 x := (Lt.mono (A := { A with bag := b1 }) (A' := A) ⟨fun _ _ _ h => h, fun _ => Nat.le_refl _, fun _ => Nat.le_refl _⟩ (r1'.t x (List.mem_of_getElem? hx))).mono pg.mo
      obtain ⟨m2, A2, eg, nx⟩ := run_given 3 sA.c sA.v lx
      have eg' : callN P 11 "_law_given" [.ref 5, .ref 8, .ref 11, x] m' = .ok (.bool true) m2 := eg
      refine Flow.by (by simp [b_law_2, Lc, eg'] <;> rfl) ?_
      exact Flow.nx_of ⟨A2, _, sA.given nx, rfl, nx.far _ _ hc hm, pg.step (by rw [← eb]; exact hx) nx⟩) (l := Lc ns x6 x7 x8 x9 x10 x11 x12) (m := M ++ [.list b1])
    ⟨{ A with bag := b1 }, x12, s2, rfl, mem_new _ _, ⟨rfl, ⟨fun _ _ _ h => h, fun _ => Nat.le_refl _, fun _ => Nat.le_refl _⟩, by have := s.v.dl 0 (by decide); simpa using this, by have := s.v.dl 1 (by decide); simpa using this, fun h => by omega, fun h => by omega⟩⟩
  obtain ⟨l', m', ef, A', x12', sA, el, _, pg⟩ := loop
  subst el
  have hlen : b1.length = (A.s 0).length - A.dn 0 + 1 + ((A.s 1).length - A.dn 1 + 1) := by rw [eb, List.length_append, rd_length, rd_length]
  rw [hlen] at pg
  refine ⟨m', A', x12', ?_, sA, pg.s, fun e he => ?_, fun e he => ?_⟩
  · have h12 : m.list 12 = some A.bag := s.c.bg
    have ef' : forLoop (some (M.length, b1)) (.name 12) (execB P (callN P 11) b_law_2) b1 [some (.fro ns), some (.ref 0), some (.ref 5), some (.ref 8), some (.ref 11), some (.ref 12), x6, x7, x8, x9, x10, x11, x12] (M ++ [.list b1]) = .nx [some (.fro ns), some (.ref 0), some (.ref 5), some (.ref 8), some (.ref 11), some (.ref 12), x6, x7, x8, x9, x10, x11, x12'] m' := ef
    clear eM eM0 eMc
    simp [b_law_3, Lc, recv_list h12, cl, e0', e1', bl, gl, ef']
  · have h1 := pg.a
    have h2 := pg.b
    rcases (by omega : e = 0 ∨ e = 1) with rfl | rfl
    · show _ ≤ A'.g 1; omega
    · show _ ≤ A'.g 0; omega
  · have h1 := pg.c (by omega)
    have h2 := pg.d (by omega)
    rcases (by omega : e = 0 ∨ e = 1) with rfl | rfl
    · exact h1
    · exact h2
def depth : Nat := 12
theorem law_true (ns : List Int) (hn : ns.length ≤ 63) : ∃ m, callN tab.prog depth ("law" : PySem.Str) [.fro ns] [] = .ok (.bool true) m := by
  show ∃ m, callN P (11 + 1) "law" [.fro ns] [] = .ok (.bool true) m
  rw [callN_fn e_law rfl]
  obtain ⟨xs, hp, _, e1⟩ := run_pool 10 [] ns 700 (by decide) hn
  have e1' : callN P 11 "_law_pool" [.fro ns, .int 700] [] = .ok (.ref 0) [.list (xs.map .int)] := e1
  have m1 : callN P 11 "Line" [] [.list (xs.map .int)] = .ok (.ref 1) [.list (xs.map .int), ln 2 0 0, .list []] := run_Line 9 [.list (xs.map .int)]
  have m2 : callN P 11 "Line" [] [.list (xs.map .int), ln 2 0 0, .list []] = .ok (.ref 3) [.list (xs.map .int), ln 2 0 0, .list [], ln 4 0 0, .list []] := run_Line 9 [.list (xs.map .int), ln 2 0 0, .list []]
  obtain ⟨M, eM⟩ : ∃ M : Mem, M = [.list (xs.map .int), ln 2 0 0, .list [], ln 4 0 0, .list [], .list [.ref 1, .ref 3], .list [], .list [], .list [.ref 6, .ref 7], .list [], .list [], .list [.ref 9, .ref 10], .list []] := ⟨_, rfl⟩
  have two : ∀ {p : Nat → Prop}, p 0 → p 1 → ∀ e, e < 2 → p e := fun {p} h0 h1 e he => by
    rcases (by omega : e = 0 ∨ e = 1) with rfl | rfl
    · exact h0
    · exact h1
  have s0 : St 0 M ⟨xs, fun _ => [], fun _ => 0, fun _ => 0, fun e => 2 + 2 * e, []⟩ := by
    subst eM
    exact ⟨⟨rfl, two rfl rfl, two rfl rfl, rfl, two rfl rfl, rfl, two rfl rfl, rfl, rfl, two (.inl rfl) (.inr (.inl rfl)), by show (2 : Nat) ≠ 4; decide⟩, ⟨hp, fun _ _ => Nat.le_refl _, fun _ _ => Nat.le_refl _, fun _ _ => ⟨by show 0 ≤ 1000; decide, fun b hb => by cases hb⟩⟩, fun _ _ => Nat.le_refl _, by show 0 ≤ 230; decide, fun x hx => by cases hx⟩
  obtain ⟨y, ys, y0, y1, h1, d1⟩ := draw 10 M (r := 0) (list_lt s0.c.p0) hp 71 (by decide)
  have d1' : callN P 11 "_law_draw" [.ref 0, .int 71] M = .ok (.int y) (pw M 0 ys) := by rw [← pw_self s0.c.p0] at d1; exact d1
  have s1 := s0.pool h1
  have loop := for_all (chk := none) (t := .name 6) (b := execB P (callN P 11) b_law_1) (xs := (List.range y.toNat).map fun (i : Nat) => .int i) (fun i l m => i ≤ y.toNat ∧ Inv ns i l m) (fun _ _ _ _ => still_none _) (fun i x l m hx hi => by
    obtain ⟨hin, ex⟩ := rng_get hx
    subst ex
    refine ⟨_, asg_name _ _ _ _, ?_⟩
    have := turn ns i (by omega) (i : Int) hi.2
    revert this
    cases execB P (callN P 11) b_law_1 (l.set 6 (some (.int (i : Int)))) m with
    | nx l m => exact fun h => ⟨hin, h⟩
    | cnt l m => exact fun h => ⟨hin, h⟩
    | _ => exact fun h => h) (l := Lc ns none none none none none none none) (m := pw M 0 ys) ⟨Nat.zero_le _, _, none, none, none, none, none, none, none, s1, rfl⟩
  obtain ⟨l', m', e, _, A, x6, x7, x8, x9, x10, x11, x12, sA, el⟩ := loop
  subst el
  rw [List.length_map, List.length_range] at sA
  have hy : y.toNat ≤ 70 := by omega
  obtain ⟨ma, Aa, x12a, ea, sa, ssa, ga, _⟩ := round ns hy sA (some (.int 0)) x7 x8 x9 x10 x11 x12
  obtain ⟨mb, Ab, x12b, eb, sb, ssb, _, db⟩ := round ns hy sa (some (.int 1)) x7 x8 x9 x10 x11 x12a
  have r2 : forLoop none (.name 6) (execB P (callN P 11) b_law_3) [.int 0, .int 1] (Lc ns x6 x7 x8 x9 x10 x11 x12) m' = .nx (Lc ns (some (.int 1)) x7 x8 x9 x10 x11 x12b) mb := by
    rw [for_one (asg_name _ _ _ _) (show execB P (callN P 11) b_law_3 ((Lc ns x6 x7 x8 x9 x10 x11 x12).set 6 (some (.int 0))) m' = _ from ea), for_one (asg_name _ _ _ _) (show execB P (callN P 11) b_law_3 ((Lc ns (some (.int 0)) x7 x8 x9 x10 x11 x12a).set 6 (some (.int 1))) ma = _ from eb), for_nil]
  have fin : ∀ (e : Nat) (E : Int) (x8 : Option Val), e < 2 → E = e → execB P (callN P 11) b_law_4 (Lc ns (some (.int 1)) x7 (some (.int E)) x9 x10 x11 x12b) mb = .nx (Lc ns (some (.int 1)) x7 (some (.int E)) x9 x10 x11 x12b) mb := fun e E x8 he eE => by
    have a5 := at5 sb.c he eE
    have a11 := at11 sb.c he eE
    have a8 : idxop mb (.ref 8) (.int (1 - E)) = some (.ref (6 + (1 - e))) := at8 sb.c (by omega) (by omega)
    have h1 := ga (1 - e) (by omega)
    have h2 := db (1 - e) (by omega)
    rw [show 1 - (1 - e) = e by omega] at h1 h2
    have h3 := sb.v.dl e he
    have h4 := sb.v.gl (1 - e) (by omega)
    have h5 := sb.v.gl e he
    rw [show 1 - (1 - e) = e by omega] at h4
    have g1 := ga e he
    have d1 := db e he
    have e3 := sb.v.dl (1 - e) (by omega)
    rw [show 1 - (1 - e) = e by omega] at e3
    rw [ssb, ssa] at h4 h5
    have gle : Ab.g e = (A.s (1 - e)).length := by omega
    have dle : (Ab.s e).length - Ab.dn e = 0 := by rw [ssb, ssa]; omega
    obtain ⟨O, eO⟩ : ∃ O : Int, O = (A.s (1 - e)).length := ⟨_, rfl⟩
    have ln1 : bltop .len [.ref (9 + e)] mb = .ok (.int O) mb := len_list (sb.c.tk e he) (by rw [List.length_take, ssb, ssa, gle, eO]; omega)
    have ln2 : bltop .len [.ref (6 + (1 - e))] mb = .ok (.int O) mb := len_list (sb.c.sn (1 - e) (by omega)) (by rw [ssb, ssa, eO])
    have le : lenR P (callN P 11) (.ref (1 + 2 * e)) mb = .ok (.int 0) mb := by
      have := run_lenR 10 (sb.c.ln e he) (sb.c.kp e he) (by rw [prN_len, List.length_drop]; omega)
      rwa [prN_len, List.length_drop, dle] at this
    simp [b_law_4, Lc, a11, a8, ln1, ln2, a5, le]
  have r3 : forLoop none (.name 8) (execB P (callN P 11) b_law_4) [.int 0, .int 1] (Lc ns (some (.int 1)) x7 x8 x9 x10 x11 x12b) mb = .nx (Lc ns (some (.int 1)) x7 (some (.int 1)) x9 x10 x11 x12b) mb := by
    rw [for_one (asg_name _ _ _ _) (show execB P (callN P 11) b_law_4 ((Lc ns (some (.int 1)) x7 x8 x9 x10 x11 x12b).set 8 (some (.int 0))) mb = _ from fin 0 0 x8 (by decide) rfl), for_one (asg_name _ _ _ _) (show execB P (callN P 11) b_law_4 ((Lc ns (some (.int 1)) x7 (some (.int 0)) x9 x10 x11 x12b).set 8 (some (.int 1))) mb = _ from fin 1 1 x8 (by decide) rfl), for_nil]
  have hj : -4611686018427387904 ≤ y ∧ y < 4611686018427387904 := by omega
  have z0 : 0 ≤ SZ := by decide
  have z2 : 2 ≤ SZ := by decide
  have rg : (List.range 2).map (fun (i : Nat) => Val.int i) = [.int 0, .int 1] := rfl
  have e' : forLoop none (.name 6) (execB P (callN P 11) b_law_1) ((List.range y.toNat).map fun (i : Nat) => .int i) [some (.fro ns), some (.ref 0), some (.ref 5), some (.ref 8), some (.ref 11), some (.ref 12), none, none, none, none, none, none, none] (pw M 0 ys) = .nx (Lc ns x6 x7 x8 x9 x10 x11 x12) m' := e
  have ex : execB P (callN P 11) f_law.body (start f_law.ns [.fro ns]) [] = .ret (.bool true) mb := by
    simp [f_law, start, e1', m1, m2, z0, z2, ← eM, d1', hj, e', rg, r2, r3]
  rw [ex]
  refine ⟨[], ?_⟩
  show gc [] (.ok (.bool true) mb) = _
  exact gc_app (m := []) (g := mb) (by simp)

end L39

namespace L39
open PySem PySem.Spec PyProof.Rows L2 Py
/-! ### the head -/
abbrev R : PySem.W.OpenRow := PySem.W.OpenLaw.row PySem.Challenge.rw_oncecoin_k39_two_ends_over_a_bag
abbrev hk : PySem.W.Hook := hookY 5 tab.fa tab.dd
def ob (s : PySem.W.SharedT) : He.AlD := obsYG 5 tab.fa tab.dd (HandSHeadRun.getT s)
theorem ob_eq (s : PySem.W.SharedT) : ob s = hk.obs s.abs := obsYG_eq (HandSHeadRun.getT_eq s)
def loose : List PySem.Str := (["_wall", "Line", "_law_pool", "_law_draw", "_law_leaf", "_law_body", "_law_same", "_law_read", "_law_given"] : List PySem.Str)
theorem run (w : World) : HandSHeadRun.RunEq R (PySem.W.view R.prog [11]) hk ob 4000 loose w := by
  intro os
  kernel_rfl
end L39

open PySem PySem.W PySem.Calls PyProof.Rows
theorem PySem.Challenge.cw_oncecoin_k39_two_ends_over_a_bag_holds : PySem.Challenge.rw_oncecoin_k39_two_ends_over_a_bag.Holds := by
  w_on; o_law
  refine HandSHeadRun.head_any (r := OpenLaw.row PySem.Challenge.rw_oncecoin_k39_two_ends_over_a_bag) (q := view (OpenLaw.row PySem.Challenge.rw_oncecoin_k39_two_ends_over_a_bag).prog [11]) (H := L39.hk) (ob := L39.ob) (M := 4000) (loose := L39.loose) (d := HandSHeadRun.topDef (OpenLaw.row PySem.Challenge.rw_oncecoin_k39_two_ends_over_a_bag).prog 11) (kwd := []) L39.ob_eq
    (by kernel_rfl) (fun s => by kernel_rfl) L39.run (by kernel_rfl) (by kernel_rfl) (by kernel_rfl) (by rfl) (by first | assumption | decide +kernel) (by decide +kernel) ⟨rfl, rfl, rfl, rfl, rfl, by decide +kernel⟩ ?hw ?hc
  case hw => w_witness2
  case hc =>
    exact Py.end_of (l := PySem.Challenge.rw_oncecoin_k39_two_ends_over_a_bag) (n := 63) (D := L39.depth) (dl := L39.d_law) rfl (by decide) (by kernel_rfl) ⟨rfl, by decide, by decide⟩ (by kernel_rfl) L39.chk L39.oks (by kernel_rfl) (by kernel_rfl) (by kernel_rfl)
      (fun K f fd F s u => F.bindsA (ps := [("_law_script" : PySem.Str)]) (fun _ _ _ _ _ _ us hl => match us, hl with | [_], _ => rfl) s [u] rfl) L39.law_true
