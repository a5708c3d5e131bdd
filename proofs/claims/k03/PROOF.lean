import PyProof.Rows.All
import KE.SortData
import HandS.Text
import Wide.All
import OpenK.AllK
import Wide.FinOn
import HandS.ForMost
import HandS.Exc
import HandS.TryOnly
import HandS.TryMany
import HandS.ExcOwn
import HandS.WordsExc
import HandS.Flow
import HandS.Style
import HandS.IsInst
import HandS.Deep
import HandS.TupAny
import HandS.Conv
import HandS.TupLe
import HandS.TupMul
import HandS.SetFor
import HandS.Zip
import HandS.More
import PyProof.ExcBaseAll.ValueError
import HandS.HeadHook3
import KE.BitLaws
import PySem.Challenge.RW_tiekinds_k03_whole_objections_judged
section
set_option Elab.async false
set_option autoImplicit false
set_option linter.all false
/-! Mini: a small language of trees. Values are trees, a name's slot holds a tree and who may change it; a def is run to a tree. -/
namespace M
open PySem (Str)

/-- a value as a tree -/
inductive T where
  | non | bl (b : Bool) | int (i : Int) | str (s : Str)
  | tup (xs : List T) | lst (xs : List T)
  /-- a list that nobody writes (the script) -/
  | frz (xs : List T)
  | dic (ks vs : List T)
  | fn (f : Nat)
  | exn (c : Nat) (fs : List T)
  deriving Inhabited

/-- how a slot's lists are held: seen by others too; the slot's alone; the slot's alone, being walked; lent -/
inductive Ow where
  | sh | ow | lk | ro
  deriving DecidableEq, Inhabited

abbrev Sl := List (Option (T × Ow))

/-- the most items of a list -/
abbrev LIM : Nat := 16777216
/-- the most turns of a while -/
def WF : Nat := 1073741824

mutual
/-- no list within -/
def T.lf : T → Bool
  | .tup xs => T.lfL xs
  | .lst _ => false
  | .dic _ _ => false
  | .exn _ _ => false
  | _ => true
def T.lfL : List T → Bool
  | [] => true
  | x :: xs => x.lf && T.lfL xs
end
/-- no list within its items -/
def T.inner : T → Bool
  | .lst xs => T.lfL xs
  | .tup xs => T.lfL xs
  | .dic _ vs => T.lfL vs
  | t => t.lf

mutual
/-- == -/
def T.eq : T → T → Bool
  | .non, .non => true
  | .bl a, .bl b => a == b
  | .bl a, .int j => (if a then 1 else 0) == j
  | .int i, .bl b => i == (if b then 1 else 0)
  | .int i, .int j => i == j
  | .str x, .str y => x == y
  | .tup xs, .tup ys => T.eqL xs ys
  | .lst xs, .lst ys => T.eqL xs ys
  | _, _ => false
def T.eqL : List T → List T → Bool
  | [], [] => true
  | x :: xs, y :: ys => x.eq y && T.eqL xs ys
  | _, _ => false
end
mutual
/-- data that == knows, so many deep at most -/
def T.pd : Nat → T → Bool
  | _, .non => true
  | _, .bl _ => true
  | _, .int _ => true
  | _, .str x => PySem.PyData.strOk x
  | 0, _ => false
  | n + 1, .tup xs => T.pdL n xs
  | n + 1, .lst xs => T.pdL n xs
  | _, _ => false
def T.pdL : Nat → List T → Bool
  | _, [] => true
  | n, x :: xs => x.pd n && T.pdL n xs
end

mutual
/-- the plain data of a tree -/
def T.dat : T → PySem.PyData
  | .non => .none
  | .bl b => .bool b
  | .int i => .int i
  | .str x => .str x
  | .tup xs => .tuple (T.datL xs)
  | .lst xs => .list (T.datL xs)
  | _ => .none
def T.datL : List T → List PySem.PyData
  | [] => []
  | x :: xs => x.dat :: T.datL xs
end
/-- truth of a value -/
def T.tr : T → Option Bool
  | .non => some false
  | .bl b => some b
  | .int i => some (i != 0)
  | .str x => if x.length ≤ LIM then some ((x.length : Int) != 0) else none
  | .tup xs => some (!xs.isEmpty)
  | .lst xs => some (!xs.isEmpty)
  | _ => none

/-- an index, from either end -/
def ixN (n : Nat) (i : Int) : Option Nat := if 0 ≤ i then (if i < n then some i.toNat else none) else if -(n : Int) ≤ i then some (i + n).toNat else none
/-- a bound of a slice -/
def sIx (n d : Nat) : Option Int → Nat
  | none => d
  | some v => if v < 0 then (v + (n : Int)).toNat else min v.toNat n
def cut {α : Type} (xs : List α) (lo hi : Option Int) : List α := (xs.drop (sIx xs.length 0 lo)).take (sIx xs.length xs.length hi - sIx xs.length 0 lo)

/-- kinds that isinstance is asked about -/
inductive Ki where
  | int | bool | str | tuple | list
  deriving DecidableEq

def T.isK : T → Ki → Option Bool
  | .int _, k => some (k == .int)
  | .bl _, k => some (k == .bool || k == .int)
  | .str _, k => some (k == .str)
  | .tup _, k => some (k == .tuple)
  | .lst _, k => some (k == .list)
  | .frz _, k => some (k == .list)
  | .non, _ => some false
  | _, _ => none

def intsOf : List T → Option (List Int)
  | [] => some []
  | .int i :: r => (intsOf r).map (i :: ·)
  | _ :: _ => none
def blsOf : List T → Option (List Bool)
  | [] => some []
  | .bl i :: r => (blsOf r).map (i :: ·)
  | _ :: _ => none

/-- what a loop walks -/
def T.items : T → Option (List T)
  | .lst xs => some xs
  | .tup xs => some xs
  | .frz xs => some xs
  | _ => none

def rangeL (a b : Int) : List T := (List.range (b - a).toNat).map fun (k : Nat) => .int (a + k)
def rangeC (a b : Int) : List T := (List.range (a - b).toNat).map fun (k : Nat) => .int (a + (k : Nat) * (-1))
def RMAX : Int := 4611686018427387904

/-! ### order -/
/-- a tuple with an item; neither a tuple nor None -/
def T.row : T → Bool
  | .tup (_ :: _) => true
  | _ => false
def T.atom : T → Bool
  | .tup _ => false
  | .non => false
  | _ => true
/-- a <= b of data of one form -/
def leT : T → T → Bool := PySem.W.dataLe false T.dat
def sorT (xs : List T) : Option (List T) :=
  if T.pdL 59 xs && T.lfL xs && (xs.all fun a => xs.all fun b => PySem.W.alike a.dat b.dat) && (xs.all T.row || xs.all T.atom) && decide (xs.length ≤ LIM) then some (xs.mergeSort leT) else none

/-! ### operations of one, two, three values -/
inductive O1 where
  | neg | inv | notO | len | tuple | list | sum | any | all | abs | int | isN | notN | isK (k : Ki) | rng | rev | sorted | max | min | str | lenSet | sortSet | enum | lrg | trg | split (sep : Str)
  deriving DecidableEq
inductive O2 where
  | lenAt | add | sub | mul | fdiv | mod | shl | shr | band | bor | bxor | eq | ne | lt | le | gt | ge | mem | nmem | isB | notB | idx | from | upto | rng2 | index | zip | max2 | min2 | get
  deriving DecidableEq
inductive O3 where
  | cut | rng3 | getd | idx2
  deriving DecidableEq

def lim (t : T) : Option T := match t with
  | .tup xs => if xs.length ≤ LIM then some t else none
  | .lst xs => if xs.length ≤ LIM then some t else none
  | .str x => if x.length ≤ LIM then some t else none
  | t => some t

def lenT : T → Option T
  | .tup xs => some (.int xs.length)
  | .lst xs => some (.int xs.length)
  | .frz xs => some (.int xs.length)
  | .str x => if x.length ≤ LIM then some (.int x.length) else none
  | _ => none
def tupleT : T → Option T
  | .tup xs => some (.tup xs)
  | .lst xs => some (.tup xs)
  | _ => none
def listT : T → Option T
  | .tup xs => some (.lst xs)
  | .lst xs => some (.lst xs)
  | _ => none
def sumT : T → Option T
  | .lst xs => (intsOf xs).map fun ns => .int ns.sum
  | _ => none
def anyT : T → Option T
  | .lst xs => (blsOf xs).map fun ns => .bl (ns.any id)
  | _ => none
def allT : T → Option T
  | .lst xs => (blsOf xs).map fun ns => .bl (ns.all id)
  | _ => none
def intT : T → Option T
  | .int i => some (.int i)
  | .bl b => some (.int (if b then 1 else 0))
  | _ => none
/-- the ints of a list, each once -/
def onceI : List Int → List Int
  | [] => []
  | n :: ns => if n ∈ ns then onceI ns else n :: onceI ns
def lenSetT (xs : List T) : Option T := if xs.length ≤ 4000 then (intsOf xs).map fun ns => .int (onceI ns).length else none
def notT (t : T) : Option T := t.tr.map fun b => .bl (!b)

def o1 : O1 → T → Option T
  | .neg, .int i => some (.int (-i))
  | .inv, .int i => some (.int (PySem.Builtin.bitNot i))
  | .notO, t => notT t
  | .len, t => lenT t
  | .tuple, t => tupleT t
  | .list, t => listT t
  | .sum, t => sumT t
  | .any, t => anyT t
  | .all, t => allT t
  | .abs, .int i => some (.int (if i < 0 then -i else i))
  | .int, t => intT t
  | .isN, .non => some (.bl true)
  | .isN, .bl _ => some (.bl false)
  | .isN, .int _ => some (.bl false)
  | .isN, .str _ => some (.bl false)
  | .isN, .tup _ => some (.bl false)
  | .isN, .lst _ => some (.bl false)
  | .notN, .non => some (.bl false)
  | .notN, .bl _ => some (.bl true)
  | .notN, .int _ => some (.bl true)
  | .notN, .str _ => some (.bl true)
  | .notN, .tup _ => some (.bl true)
  | .notN, .lst _ => some (.bl true)
  | .isK k, t => (t.isK k).map .bl
  | .sorted, .tup xs => (sorT xs).map .lst
  | .sorted, .lst xs => (sorT xs).map .lst
  | .split b, .str a => if (b.length == 0) = false ∧ a.length + 2 ≤ LIM then some (.lst ((PySem.Txt.split a b).map .str)) else none
  | .rng, .int n => if -RMAX ≤ n ∧ n ≤ LIM then some (.lst (rangeL 0 n)) else none
  | .lrg, .int n => if -RMAX ≤ n ∧ n ≤ LIM then some (.lst (rangeL 0 n)) else none
  | .trg, .int n => if -RMAX ≤ n ∧ n ≤ LIM then some (.tup (rangeL 0 n)) else none
  | .lenSet, .tup xs => lenSetT xs
  | .rev, .tup xs => some (.tup xs.reverse)
  | .rev, .lst xs => some (.lst xs.reverse)
  | _, _ => none

def mulOk (i j : Int) : Bool := decide ((-(2 ^ 64) < i ∧ i < 2 ^ 64) ∨ (-(2 ^ 64) < j ∧ j < 2 ^ 64))
def shlOk (i j : Int) : Bool := decide (0 ≤ j ∧ j ≤ 1000000 ∧ i.natAbs < 2 ^ 64)

def addT : T → T → Option T
  | .int i, .int j => some (.int (i + j))
  | .str x, .str y => if x.length + y.length ≤ LIM then some (.str (x ++ y)) else none
  | .tup xs, .tup ys => if xs.length + ys.length ≤ LIM then some (.tup (xs ++ ys)) else none
  | .lst xs, .lst ys => if xs.length + ys.length ≤ LIM then some (.lst (xs ++ ys)) else none
  | _, _ => none
def mulT : T → T → Option T
  | .int i, .int j => if mulOk i j then some (.int (i * j)) else none
  | .lst xs, .int k => if -RMAX ≤ k ∧ k ≤ LIM ∧ xs.length * k.toNat ≤ LIM then some (.lst (List.replicate k.toNat xs).flatten) else none
  | .tup xs, .int k => if 2 ≤ k ∧ k ≤ 1000 ∧ xs.isEmpty = false ∧ xs.length ≤ 1000 then some (.tup (List.replicate k.toNat xs).flatten) else none
  | _, _ => none
def eqT (a b : T) : Option T := if a.pd 60 && b.pd 60 then some (.bl (a.eq b)) else none
def neT (a b : T) : Option T := if a.pd 60 && b.pd 60 then some (.bl (!a.eq b)) else none
def subStr (x y : Str) : Bool := !(PySem.Builtin.Str.occurrences y x 0 y.length 1).isEmpty
def memT (a : T) : T → Option Bool
  | .tup ys => if a.pd 60 && T.pdL 59 ys then some (ys.any fun z => z.eq a) else none
  | .lst ys => if a.pd 60 && T.pdL 59 ys then some (ys.any fun z => z.eq a) else none
  | .dic ks _ => if a.pd 60 && T.pdL 59 ks then some (ks.any fun z => z.eq a) else none
  | .str y => match a with
    | .str x => some (subStr x y)
    | _ => none
  | _ => none
def idxT : T → T → Option T
  | .tup xs, .int i => (ixN xs.length i).bind fun j => xs[j]?
  | .lst xs, .int i => (ixN xs.length i).bind fun j => xs[j]?
  | .frz xs, .int i => (ixN xs.length i).bind fun j => xs[j]?
  | .str x, .int i => if x.length ≤ LIM then ((ixN x.cps.toList.length i).bind fun j => x.cps.toList[j]?).map fun c => .str ⟨#[c]⟩ else none
  | _, _ => none
def cutT (lo hi : Option Int) : T → Option T
  | .tup xs => some (.tup (cut xs lo hi))
  | .lst xs => some (.lst (cut xs lo hi))
  | _ => none
/-- the first place of an equal one -/
def findIx (a : T) : Nat → List T → Option Nat
  | _, [] => none
  | k, y :: ys => if y.eq a then some k else findIx a (k + 1) ys
def indexT (a : T) : T → Option T
  | .lst ys => if a.pd 60 && T.pdL 59 ys then (findIx a 0 ys).map fun k => .int k else none
  | _ => none

def zipT (xs ys : List T) : List T := (xs.zip ys).map fun p => .tup [p.1, p.2]
def o2 : O2 → T → T → Option T
  | .zip, .tup xs, .tup ys => some (.lst (zipT xs ys))
  | .add, a, b => addT a b
  | .sub, .int i, .int j => some (.int (i - j))
  | .mul, a, b => mulT a b
  | .fdiv, .int i, .int j => if j ≠ 0 ∧ j.natAbs < 1073741824 then some (.int (i.fdiv j)) else none
  | .mod, .int i, .int j => if j ≠ 0 then some (.int (i.fmod j)) else none
  | .shl, .int i, .int j => if shlOk i j then some (.int (i * 2 ^ j.toNat)) else none
  | .shr, .int i, .int j => if 0 ≤ j then some (.int (i / 2 ^ j.toNat)) else none
  | .band, .int i, .int j => some (.int (PySem.Builtin.bitAnd i j))
  | .bor, .int i, .int j => some (.int (PySem.Builtin.bitOr i j))
  | .bxor, .int i, .int j => some (.int (PySem.Builtin.bitXor i j))
  | .eq, a, b => eqT a b
  | .ne, a, b => neT a b
  | .lt, .int i, .int j => some (.bl (decide (i < j)))
  | .le, .int i, .int j => some (.bl (decide (i ≤ j)))
  | .gt, .int i, .int j => some (.bl (decide (j < i)))
  | .ge, .int i, .int j => some (.bl (decide (j ≤ i)))
  | .mem, a, b => (memT a b).map .bl
  | .nmem, a, b => (memT a b).map fun k => .bl (!k)
  | .isB, .bl a, .bl b => some (.bl (decide (a = b)))
  | .notB, .bl a, .bl b => some (.bl (!decide (a = b)))
  | .idx, a, b => idxT a b
  | .from, a, .int i => cutT (some i) none a
  | .upto, a, .int i => cutT none (some i) a
  | .rng2, .int a, .int b => if -RMAX ≤ a ∧ b < RMAX ∧ a < RMAX ∧ -RMAX ≤ b ∧ b - a ≤ LIM then some (.lst (rangeL a b)) else none
  | .index, a, b => indexT b a
  | .lenAt, a, b => (idxT a b).bind lenT
  | _, _, _ => none

def o3 : O3 → T → T → T → Option T
  | .cut, a, .int i, .int j => cutT (some i) (some j) a
  | .idx2, a, i, j => (idxT a i).bind fun b => idxT b j
  | _, _, _, _ => none

/-- whose are the lists within the result: nobody's (a plain thing), new ones around given ones, given ones -/
inductive Rk where
  | plain | fresh | given
def O1.rk : O1 → Rk
  | .tuple => .fresh
  | .list => .fresh
  | .rev => .fresh
  | .sorted => .fresh
  | .max => .given
  | .min => .given
  | .sortSet => .fresh
  | .enum => .fresh
  | _ => .plain
def O2.rk : O2 → Rk
  | .add => .fresh
  | .mul => .fresh
  | .idx => .given
  | .from => .fresh
  | .upto => .fresh
  | .zip => .fresh
  | .max2 => .given
  | .min2 => .given
  | .get => .given
  | _ => .plain
def O3.rk : O3 → Rk
  | .getd => .given
  | .idx2 => .given
  | .rng3 => .plain
  | .cut => .fresh
def Rk.own : Rk → T → Bool
  | .plain, _ => true
  | .fresh, t => t.inner
  | .given, t => t.lf

/-! ### the language -/
/-- a target: a name, several names -/
inductive Tg where
  | nm (i : Nat)
  | tp (is : List Nat)
  deriving DecidableEq

inductive E where
  | var (i : Nat)
  | brw (i : Nat)
  | mov (i : Nat)
  | con (t : T)
  | gl (k : Nat)
  | op1 (o : O1) (a : E)
  | op2 (o : O2) (a b : E)
  | op3 (o : O3) (a b c : E)
  | and (a b : E)
  | or (a b : E)
  | ite (c a b : E)
  | chain (o p : O2) (a b c : E)
  | tup (es : List E)
  | lst (es : List E)
  | lc (t : Tg) (it : E) (cs : List E) (elt : E) (own : List Nat)
  | lc2 (t : Tg) (it : E) (t1 : Tg) (it1 : E) (cs1 : List E) (elt : E) (own own1 : List Nat)
  | call (f : Nat) (es : List E)
  | pop (i : Nat) (ix : List E)
  /-- a table of the top, at a text -/
  | dget (j : Nat) (a : E)
  | fld (i : Nat) (k : Nat)
  | isx (i : Nat) (c : Nat)

inductive S where
  | set (i : Nat) (e : E)
  | own (i : Nat) (e : E)
  | par (is : List (Nat × Bool)) (es : List E)
  | unp (is : List Nat) (e : E)
  | aug (i : Nat) (o : O2) (e : E)
  | stI (i : Nat) (path : List E) (ix e : E)
  | app (i : Nat) (e : E)
  | ext (i : Nat) (e : E)
  | drop (e : E)
  | ret (e : E)
  | iff (c : E) (a b : List S)
  | fr (t : Tg) (it : E) (b : List S)
  | wh (c : E) (b : List S)
  | rais (c : Nat) (es : List E)
  | tr (b : List S) (hs : List (Nat × Option Nat × List S))
  | pass

/-- how a parameter is handed in: by value; lent; lent and changed -/
inductive Md where
  | va | ro | io
  deriving DecidableEq

structure Fn where
  md : List Md
  ns : Nat
  body : List S

structure Pg where
  fns : List Fn
  consts : List T
  dics : List (List (Str × T))
  /-- is the first class the second one or below it -/
  sub : Nat → Nat → Bool

/-! ### results -/
inductive Rv (α : Type) where
  | ok (a : α) (s : Sl)
  | ex (c : Nat) (fs : List T) (s : Sl)
  | bad

def Rv.bind {α β : Type} (r : Rv α) (k : α → Sl → Rv β) : Rv β := match r with
  | .ok a s => k a s
  | .ex c fs s => .ex c fs s
  | .bad => .bad

inductive CR where
  | ok (t : T) (o : Bool) (io : List T)
  | ex (c : Nat) (fs : List T) (io : List T)
  | bad

inductive Fl where
  | nx (s : Sl)
  | rt (t : T) (o : Bool) (s : Sl)
  | ex (c : Nat) (fs : List T) (s : Sl)
  | bad

def rd (s : Sl) (i : Nat) : Option (T × Ow) := (s[i]?).join
/-- the slot holds a list -/
def isLs (s : Sl) (i : Nat) : Bool := match rd s i with
  | some (.lst _, _) => true
  | _ => false

/-- an argument: a value and whether it is nobody else's; a lent slot -/
inductive Ag where
  | v (t : T) (o : Bool)
  | b (i : Nat)

def E.asBrw : E → Option Nat
  | .brw i => some i
  | _ => none

def Ag.get (s : Sl) : Ag → Option T
  | .v t _ => some t
  | .b i => (rd s i).map (·.1)
def Ag.isB : Ag → Bool
  | .v _ _ => false
  | .b _ => true

/-- the result of an operation: its owner told -/
def fin (k : Rk) (lent : Bool) (z : Option T) (s : Sl) : Rv (T × Bool) := match z with
  | none => .bad
  | some t => if lent then (if k.own t then .ok (t, true) s else .bad) else .ok (t, k.own t) s

def fin1 (o : O1) (a : Ag) (s : Sl) : Rv (T × Bool) := match a.get s with
  | some t => fin o.rk a.isB (o1 o t) s
  | none => .bad
def fin2 (o : O2) (a b : Ag) (s : Sl) : Rv (T × Bool) := match a.get s, b.get s with
  | some t, some u => fin o.rk (a.isB || b.isB) (o2 o t u) s
  | _, _ => .bad
def fin3 (o : O3) (a b c : Ag) (s : Sl) : Rv (T × Bool) := match a.get s, b.get s, c.get s with
  | some t, some u, some v => fin o.rk (a.isB || b.isB || c.isB) (o3 o t u v) s
  | _, _, _ => .bad

/-- the second value: an int -/
def O3.pre : O3 → Option T → Bool
  | .getd, _ => true
  | _, some (.int _) => true
  | _, _ => false
/-- a name takes a value -/
def put (s : Sl) (i : Nat) (t : T) (w : Ow) : Sl := s.set i (some (t, w))
def putTg : Tg → T → Sl → Option Sl
  | .nm i, t, s => some (put s i t .sh)
  | .tp is, .tup xs, s => if xs.length = is.length then some ((is.zip xs).foldl (fun s p => put s p.1 p.2 .sh) s) else none
  | _, _, _ => none

/-- what a loop walks, from its source: the items, the slot that is locked -/
def src (a : Ag) (s : Sl) : Option (List T × Sl × Option Nat) := match a with
  | .v t _ => t.items.map fun xs => (xs, s, none)
  | .b i => match rd s i with
    | some (t, .ow) => t.items.bind fun xs => if T.lfL xs then some (xs, put s i t .lk, some i) else none
    | some (t, _) => t.items.bind fun xs => if T.lfL xs then some (xs, s, none) else none
    | none => none
/-- behind the loop a locked slot is open again -/
def unlk (s : Sl) : Option Nat → Sl
  | none => s
  | some i => match rd s i with
    | some (t, .lk) => put s i t .ow
    | _ => s

/-- the slots of a comprehension's own names are empty within, and behind it as they were -/
def wipe (s : Sl) : List Nat → Sl
  | [] => s
  | i :: is => (wipe s is).set i none
def back (s0 s : Sl) : List Nat → Sl
  | [] => s
  | i :: is => (back s0 s is).set i ((s0[i]?).join)
def mayHide (s : Sl) (is : List Nat) : Bool := is.all fun i => match rd s i with
  | some (_, .ow) => false
  | some (_, .lk) => false
  | _ => true

/-- the turns of a comprehension -/
def lcGo (own : List Nat) (tg : Tg) (body : Sl → Rv (List (T × Bool))) : List T → Sl → Rv (List (T × Bool))
  | [], s => .ok [] s
  | x :: xs, s => match putTg tg x (wipe s own) with
    | none => .bad
    | some s1 => match body s1 with
      | .ok ys s2 => match lcGo own tg body xs s2 with
        | .ok zs s3 => .ok (ys ++ zs) s3
        | _ => .bad
      | _ => .bad

def lcOut (s0 : Sl) (own : List Nat) (lk : Option Nat) : Rv (List (T × Bool)) → Rv (T × Bool)
  | .ok ys s => if ys.length ≤ LIM then .ok (.lst (ys.map (·.1)), T.lfL (ys.map (·.1)) || ys.all (·.2)) (unlk (back s0 s own) lk) else .bad
  | _ => .bad

/-- the arguments of a call as its parameters take them -/
def bindA (s : Sl) : List Md → List Ag → Option (List T)
  | [], [] => some []
  | .va :: ms, .v t _ :: as => (bindA s ms as).map (t :: ·)
  | .ro :: ms, .b i :: as => match rd s i with
    | some (t, _) => (bindA s ms as).map (t :: ·)
    | none => none
  | .ro :: ms, .v t _ :: as => (bindA s ms as).map (t :: ·)
  | .io :: ms, .b i :: as => match rd s i with
    | some (t, .ow) => (bindA s ms as).map (t :: ·)
    | _ => none
  | _, _ => none
/-- the slots that are lent to be changed; the others lent -/
def ioOf : List Md → List Ag → List Nat
  | .io :: ms, .b i :: as => i :: ioOf ms as
  | _ :: ms, _ :: as => ioOf ms as
  | _, _ => []
def roOf : List Md → List Ag → List Nat
  | .ro :: ms, .b i :: as => i :: roOf ms as
  | _ :: ms, _ :: as => roOf ms as
  | _, _ => []
def apart (io ro : List Nat) : Bool := decide io.Nodup && io.all fun i => !ro.contains i
def putIo (s : Sl) : List Nat → List T → Sl
  | i :: is, t :: ts => putIo (put s i t .ow) is ts
  | _, _ => s

def callR (md : List Md) (C : List T → CR) (as : List Ag) (s : Sl) : Rv (T × Bool) :=
  match bindA s md as with
  | none => .bad
  | some ts => if apart (ioOf md as) (roOf md as) then
      match C ts with
      | .ok t o io => .ok (t, o) (putIo s (ioOf md as) io)
      | .ex c fs io => .ex c fs (putIo s (ioOf md as) io)
      | .bad => .bad
    else .bad

/-- x.pop(), x.pop(k) -/
def popR (i : Nat) (ks : List (T × Bool)) (s : Sl) : Rv (T × Bool) := match rd s i, ks with
  | some (.lst xs, .ow), [] => match xs.getLast? with
    | some y => if y.lf then .ok (y, true) (put s i (.lst xs.dropLast) .ow) else .bad
    | none => .bad
  | some (.lst xs, .ow), [(.int k, _)] => if -RMAX ≤ k ∧ k ≤ RMAX then (match ixN xs.length k with
    | some j => match xs[j]? with
      | some y => if y.lf then .ok (y, true) (put s i (.lst (xs.eraseIdx j)) .ow) else .bad
      | none => .bad
    | none => .bad) else .bad
  | _, _ => .bad

/-- an argument: a lent slot, or the value -/
def ag (e : E) (r : Rv (T × Bool)) (s : Sl) : Rv Ag := match e.asBrw with
  | some i => if (rd s i).isSome then .ok (.b i) s else .bad
  | none => r.bind fun x s1 => .ok (.v x.1 x.2) s1

section
variable (G : Pg) (C : Nat → List T → CR)
mutual
def ev : E → Sl → Rv (T × Bool)
  | .var i, s => match rd s i with
    | some (t, .sh) => .ok (t, t.lf) s
    | _ => .bad
  | .brw _, _ => .bad
  | .mov i, s => match rd s i with
    | some (t, .ow) => .ok (t, true) (s.set i none)
    | _ => .bad
  | .con t, s => .ok (t, true) s
  | .gl k, s => match G.consts[k]? with
    | some t => .ok (t, t.lf) s
    | none => .bad
  | .op1 o a, s => (ag a (ev a s) s).bind fun x s1 => fin1 o x s1
  | .op2 o a b, s => (ag a (ev a s) s).bind fun x s1 => (ag b (ev b s1) s1).bind fun y s2 => fin2 o x y s2
  | .op3 o a b c, s => (ag a (ev a s) s).bind fun x s1 => (ag b (ev b s1) s1).bind fun y s2 => if o.pre (y.get s2) then (ag c (ev c s2) s2).bind fun z s3 => fin3 o x y z s3 else .bad
  | .and a b, s => (ev a s).bind fun x s1 => match x.1.tr with
    | some true => ev b s1
    | some false => .ok x s1
    | none => .bad
  | .or a b, s => (ev a s).bind fun x s1 => match x.1.tr with
    | some true => .ok x s1
    | some false => ev b s1
    | none => .bad
  | .ite c a b, s => (ev c s).bind fun x s1 => match x.1.tr with
    | some true => ev a s1
    | some false => ev b s1
    | none => .bad
  | .chain o p a b c, s => (ev a s).bind fun x s1 => (ev b s1).bind fun y s2 => match o2 o x.1 y.1 with
    | some (.bl true) => (ev c s2).bind fun z s3 => fin2 p (.v y.1 y.2) (.v z.1 z.2) s3
    | some (.bl false) => .ok (.bl false, true) s2
    | _ => .bad
  | .tup es, s => (evs es s).bind fun xs s1 => if xs.length ≤ LIM then .ok (.tup (xs.map (·.1)), xs.all (·.2)) s1 else .bad
  | .lst es, s => (evs es s).bind fun xs s1 => if xs.length ≤ LIM then .ok (.lst (xs.map (·.1)), xs.all (·.2)) s1 else .bad
  | .lc t it cs elt own, s => (ag it (ev it s) s).bind fun a s1 => match src a s1 with
    | none => .bad
    | some (xs, s2, lk) => if mayHide s2 own then
        lcOut s2 own lk (lcGo own t (fun s3 => evc cs s3 (fun s4 => (ev elt s4).bind fun y s5 => .ok [y] s5)) xs (wipe s2 own))
      else .bad
  | .lc2 t it t1 it1 cs1 elt own own1, s => (ag it (ev it s) s).bind fun a s1 => match src a s1 with
    | none => .bad
    | some (xs, s2, lk) => if mayHide s2 own then
        lcOut s2 own lk (lcGo own t (fun s3 => (ag it1 (ev it1 s3) s3).bind fun a1 s4 => match src a1 s4 with
          | none => .bad
          | some (ys, s5, lk1) => match lcGo own1 t1 (fun s6 => evc cs1 s6 (fun s7 => (ev elt s7).bind fun y s8 => .ok [y] s8)) ys s5 with
            | .ok zs s9 => .ok zs (unlk (wipe s9 own1) lk1)
            | _ => .bad) xs (wipe s2 own))
      else .bad
  | .call f es, s => (evas es s).bind fun as s1 => match G.fns[f]? with
    | some F => callR F.md (C f) as s1
    | none => .bad
  | .pop i ix, s => if isLs s i then (evs ix s).bind fun ks s1 => popR i ks s1 else .bad
  | .dget j a, s => (ag a (ev a s) s).bind fun x s1 => match x.get s1 with
    | some (.str y) => (match (G.dics[j]?).bind fun d => d.lookup y with
      | some t => fin .given x.isB (some t) s1
      | none => .bad)
    | _ => .bad
  | .fld i k, s => match rd s i with
    | some (.exn _ fs, _) => match fs[k]? with
      | some t => .ok (t, t.lf) s
      | none => .bad
    | _ => .bad
  | .isx i c, s => match rd s i with
    | some (.exn d _, _) => .ok (.bl (G.sub d c), true) s
    | _ => .bad
/-- the arguments of a call -/
def evas : List E → Sl → Rv (List Ag)
  | [], s => .ok [] s
  | e :: es, s => (ag e (ev e s) s).bind fun a s1 => (evas es s1).bind fun as s2 => .ok (a :: as) s2
def evs : List E → Sl → Rv (List (T × Bool))
  | [], s => .ok [] s
  | e :: es, s => (ev e s).bind fun x s1 => (evs es s1).bind fun xs s2 => .ok (x :: xs) s2
/-- the tests of a comprehension -/
def evc : List E → Sl → (Sl → Rv (List (T × Bool))) → Rv (List (T × Bool))
  | [], s, k => k s
  | c :: cs, s, k => (ev c s).bind fun x s1 => match x.1.tr with
    | some true => evc cs s1 k
    | some false => .ok [] s1
    | none => .bad
end
end

/-! ### statements -/
def Fl.seq (r : Fl) (k : Sl → Fl) : Fl := match r with
  | .nx s => k s
  | r => r
def Rv.fl {α : Type} (r : Rv α) (k : α → Sl → Fl) : Fl := match r with
  | .ok a s => k a s
  | .ex c fs s => .ex c fs s
  | .bad => .bad
/-- the turns of a for -/
def forGo (tg : Tg) (lk : Option Nat) (body : Sl → Fl) : List T → Sl → Fl
  | [], s => .nx (unlk s lk)
  | x :: xs, s => match putTg tg x s with
    | none => .bad
    | some s1 => match body s1 with
      | .nx s2 => forGo tg lk body xs s2
      | r => r
/-- the turns of a while -/
def whGo (test : Sl → Rv (T × Bool)) (body : Sl → Fl) : Nat → Sl → Fl
  | 0, _ => .bad
  | n + 1, s => (test s).fl fun x s1 => match x.1.tr with
    | some true => (match body s1 with
      | .nx s2 => whGo test body n s2
      | r => r)
    | some false => .nx s1
    | none => .bad
/-- values into names: each with whether the name owns it -/
def putAll : List (Nat × Bool) → List (T × Bool) → Sl → Option Sl
  | [], [], s => some s
  | (i, w) :: is, (t, o) :: ts, s => if w then (if o then putAll is ts (put s i t .ow) else none) else putAll is ts (put s i t .sh)
  | _, _, _ => none
/-- x op= y makes a new value: ints, texts -/
def augOk : T → T → Bool
  | .int _, .int _ => true
  | .str _, .str _ => true
  | _, _ => false
/-- x[k] = v, x a list -/
def stL (xs : List T) (k : T) (t : T) : Option (List T) := match k with
  | .int i => (ixN xs.length i).map fun j => xs.set j t
  | _ => none
def stR (i : Nat) (path : List (T × Bool)) (k : T) (t : T × Bool) (s : Sl) : Fl := match rd s i, path with
  | some (.lst xs, .ow), [] => if t.2 then (match stL xs k t.1 with
    | some ys => .nx (put s i (.lst ys) .ow)
    | none => .bad) else .bad
  | some (.lst xs, .ow), [(.int p, _)] => if t.2 then (match ixN xs.length p with
    | some j => match xs[j]? with
      | some (.lst ys) => match stL ys k t.1 with
        | some zs => .nx (put s i (.lst (xs.set j (.lst zs))) .ow)
        | none => .bad
      | _ => .bad
    | none => .bad) else .bad
  | _, _ => .bad
def appR (i : Nat) (t : T × Bool) (s : Sl) : Fl := match rd s i with
  | some (.lst xs, .ow) => if t.2 && decide (xs.length < LIM) then .nx (put s i (.lst (xs ++ [t.1])) .ow) else .bad
  | _ => .bad
def extR (i : Nat) (t : T × Bool) (s : Sl) : Fl := match rd s i, t.1 with
  | some (.lst xs, .ow), .lst ys => if t.2 && decide (xs.length + ys.length ≤ LIM) then .nx (put s i (.lst (xs ++ ys)) .ow) else .bad
  | _, _ => .bad
/-- the first clause for a class -/
def clause {α : Type} (sub : Nat → Nat → Bool) (c : Nat) : List (Nat × α) → Option α
  | [] => none
  | (d, a) :: r => if sub c d then some a else clause sub c r

section
variable (G : Pg) (C : Nat → List T → CR)
mutual
def ex1 : S → Sl → Fl
  | .set i e, s => (ev G C e s).fl fun x s1 => .nx (put s1 i x.1 .sh)
  | .own i e, s => (ev G C e s).fl fun x s1 => if x.2 then .nx (put s1 i x.1 .ow) else .bad
  | .par is es, s => (evs G C es s).fl fun xs s1 => match putAll is xs s1 with
    | some s2 => .nx s2
    | none => .bad
  | .unp is e, s => (ev G C e s).fl fun x s1 => match putTg (.tp is) x.1 s1 with
    | some s2 => .nx s2
    | none => .bad
  | .aug i o e, s => if (rd s i).isSome then (ev G C e s).fl fun x s1 => match rd s1 i with
    | some (t, .sh) => if augOk t x.1 then (match o2 o t x.1 with
      | some z => .nx (put s1 i z .sh)
      | none => .bad) else .bad
    | _ => .bad else .bad
  | .stI i path ix e, s => (ev G C e s).fl fun x s1 => if (rd s1 i).isSome then (evs G C path s1).fl fun p s2 => (ev G C ix s2).fl fun k s3 => stR i p k.1 x s3 else .bad
  | .app i e, s => if isLs s i then (ev G C e s).fl fun x s1 => appR i x s1 else .bad
  | .ext i e, s => if isLs s i then (ev G C e s).fl fun x s1 => extR i x s1 else .bad
  | .drop e, s => (ev G C e s).fl fun _ s1 => .nx s1
  | .ret e, s => (ev G C e s).fl fun x s1 => .rt x.1 x.2 s1
  | .iff c a b, s => (ev G C c s).fl fun x s1 => match x.1.tr with
    | some true => exs a s1
    | some false => exs b s1
    | none => .bad
  | .fr t it b, s => (ag it (ev G C it s) s).fl fun a s1 => match src a s1 with
    | none => .bad
    | some (xs, s2, lk) => forGo t lk (fun s3 => exs b s3) xs s2
  | .wh c b, s => whGo (fun s1 => ev G C c s1) (fun s1 => exs b s1) WF s
  | .rais c es, s => (evs G C es s).fl fun xs s1 => .ex c (xs.map (·.1)) s1
  | .tr b hs, s => match exs b s with
    | .ex c fs s1 => hdl hs c fs s1
    | r => r
  | .pass, s => .nx s
def exs : List S → Sl → Fl
  | [], s => .nx s
  | x :: xs, s => match ex1 x s with
    | .nx s1 => exs xs s1
    | r => r
/-- the first clause that takes it -/
def hdl : List (Nat × Option Nat × List S) → Nat → List T → Sl → Fl
  | [], c, fs, s => .ex c fs s
  | (d, nm, b) :: hs, c, fs, s => if G.sub c d then (match nm with
      | none => (match exs b s with
        | .ex _ _ _ => .bad
        | r => r)
      | some i => (match exs b (put s i (.exn c fs) .sh) with
        | .nx s1 => .nx (s1.set i none)
        | .rt t o s1 => .rt t o (s1.set i none)
        | _ => .bad))
    else hdl hs c fs s
end
end

/-- the slots at a def's entry -/
def enter (md : List Md) (ts : List T) (n : Nat) : Sl := ((md.zip ts).map fun p => match p.1 with
  | .va => some (p.2, Ow.sh)
  | .ro => some (p.2, .ro)
  | .io => some (p.2, .ow)) ++ List.replicate (n - ts.length) none
/-- what the changed ones have become -/
def outIo (s : Sl) : Nat → List Md → Option (List T)
  | _, [] => some []
  | k, .io :: ms => match rd s k with
    | some (t, .ow) => (outIo s (k + 1) ms).map (t :: ·)
    | _ => none
  | k, _ :: ms => outIo s (k + 1) ms
def leave (md : List Md) : Fl → CR
  | .nx s => match outIo s 0 md with
    | some io => .ok .non true io
    | none => .bad
  | .rt t o s => match outIo s 0 md with
    | some io => .ok t o io
    | none => .bad
  | .ex c fs s => match outIo s 0 md with
    | some io => .ex c fs io
    | none => .bad
  | .bad => .bad
def runFn (G : Pg) (C : Nat → List T → CR) (F : Fn) (ts : List T) : CR :=
  if ts.length = F.md.length then leave F.md (exs G C F.body (enter F.md ts F.ns)) else .bad
/-- a def called, so many calls deep at most -/
def call (G : Pg) : Nat → Nat → List T → CR
  | 0, _, _ => .bad
  | n + 1, f, ts => match G.fns[f]? with
    | some F => runFn G (fun g us => call G n g us) F ts
    | none => .bad
end M
end

section
set_option Elab.async false
set_option autoImplicit false
set_option linter.all false
set_option maxRecDepth 100000
set_option maxHeartbeats 2000000
/-! SoundA: trees and the abstract heap. -/
namespace M
open PySem (Addr Str)
open L2 (V Hp HO SqT SqL Rd upd upd_same upd_ne St)

/-- a list that stays as it is: locked, or of the text's top -/
def FrzT (K : PySem.W.Frag) (H : Hp) (a : Addr) (xs : List V) : Prop :=
  (∃ o, H a = some (.frz o (.lst xs))) ∨ ∃ (o : PySem.Obj) (its : Array PySem.Value) (n : Nat), K.lookup a = some o ∧ o.cls = .type "list" ∧ o.dict = none ∧ o.data = .seq its n ∧ its.size ≤ PySem.sizeLine ∧ L2.Vals xs its.toList
theorem FrzT.sql {K : PySem.W.Frag} {H : Hp} {a : Addr} {xs : List V} (h : FrzT K H a xs) : SqL K H a xs := h.elim (fun q => .inl (.inr q)) .inr
section
variable (K : PySem.W.Frag) (ad : Nat → Addr)
mutual
/-- a value stands for a tree; S: the lists within -/
def Rep (H : Hp) : T → V → List Addr → Prop
  | .non, v, S => v = .non ∧ S = []
  | .bl b, v, S => v = .bl b ∧ S = []
  | .int i, v, S => v = .int i ∧ S = []
  | .str x, v, S => v = .str x ∧ S = []
  | .tup ts, v, S => ∃ a vs, v = .ref a ∧ SqT K H a vs ∧ RepL H ts vs S
  | .lst ts, v, S => ∃ a vs S', v = .ref a ∧ H a = some (.lst vs) ∧ S = a :: S' ∧ RepL H ts vs S'
  | .frz ts, v, S => ∃ a vs, v = .ref a ∧ FrzT K H a vs ∧ RepL H ts vs [] ∧ S = []
  | .dic _ _, _, _ => False
  | .fn f, v, S => v = .ref (ad f) ∧ S = []
  | .exn _ _, v, S => (∃ a, v = .ref a) ∧ S = []
def RepL (H : Hp) : List T → List V → List Addr → Prop
  | [], vs, S => vs = [] ∧ S = []
  | t :: ts, vs, S => ∃ v vs' S1 S2, vs = v :: vs' ∧ S = S1 ++ S2 ∧ Rep H t v S1 ∧ RepL H ts vs' S2
end
end

/-- the objects outside O stay -/
def Keep (O : Addr → Prop) (H H' : Hp) : Prop := ∀ a o, H a = some o → ¬ O a → H' a = some o
def Lists (O : Addr → Prop) (H : Hp) : Prop := ∀ a, O a → ∃ xs, H a = some (.lst xs)
/-- nothing is lost -/
def Grow (H H' : Hp) : Prop := ∀ a o, H a = some o → H' a = some o
theorem Grow.refl (H : Hp) : Grow H H := fun _ _ h => h
theorem Grow.trans {H H1 H2 : Hp} (a : Grow H H1) (b : Grow H1 H2) : Grow H H2 := fun c o h => b c o (a c o h)
theorem Grow.keep {H H' : Hp} (g : Grow H H') (O : Addr → Prop) : Keep O H H' := fun a o h _ => g a o h
theorem Grow.new {H : Hp} {p : Addr} {o : HO} (h : H p = none) : Grow H (upd H p o) := fun a u e => by
  rw [upd_ne (L2.ne_of_none e h)]; exact e
theorem Grow.free {H H' : Hp} (g : Grow H H') {a : Addr} (h : H' a = none) : H a = none := by
  cases e : H a with
  | none => rfl
  | some o => rw [g a o e] at h; cases h

section
variable {K : PySem.W.Frag} {ad : Nat → Addr} {H H' : Hp} {O : Addr → Prop}
theorem SqT.keep {a : Addr} {vs : List V} (h : SqT K H a vs) (k : Keep O H H') (l : Lists O H) : SqT K H' a vs := by
  rcases h with (h | ⟨o, h⟩) | h
  · refine .inl (.inl (k _ _ h fun q => ?_))
    obtain ⟨xs, e⟩ := l a q
    rw [h] at e; cases e
  · refine .inl (.inr ⟨o, k _ _ h fun q => ?_⟩)
    obtain ⟨xs, e⟩ := l a q
    rw [h] at e; cases e
  · exact .inr h
theorem SqT.grow {a : Addr} {vs : List V} (h : SqT K H a vs) (g : Grow H H') : SqT K H' a vs := SqT.keep (O := fun _ => False) h (g.keep _) fun _ z => z.elim
mutual
theorem Rep.keep (k : Keep O H H') (l : Lists O H) : ∀ {t : T} {v : V} {S : List Addr}, Rep K ad H t v S → (∀ a ∈ S, ¬ O a) → Rep K ad H' t v S
  | .non, _, _, h, _ => by rw [Rep] at h ⊢; exact h
  | .bl b, _, _, h, _ => by rw [Rep] at h ⊢; exact h
  | .int i, _, _, h, _ => by rw [Rep] at h ⊢; exact h
  | .str x, _, _, h, _ => by rw [Rep] at h ⊢; exact h
  | .tup ts, _, _, h, n => by
    rw [Rep] at h ⊢
    obtain ⟨a, vs, e, q, r⟩ := h
    exact ⟨a, vs, e, SqT.keep q k l, RepL.keep k l r n⟩
  | .lst ts, _, _, h, n => by
    rw [Rep] at h ⊢
    obtain ⟨a, vs, S', e, q, es, r⟩ := h
    subst es
    exact ⟨a, vs, S', e, k _ _ q (n a (by simp)), rfl, RepL.keep k l r fun b hb => n b (by simp [hb])⟩
  | .frz ts, _, _, h, _ => by
    rw [Rep] at h ⊢
    obtain ⟨a, vs, e, q, r, es⟩ := h
    refine ⟨a, vs, e, ?_, RepL.keep k l r (by simp), es⟩
    rcases q with ⟨o, q⟩ | q
    · refine .inl ⟨o, k _ _ q fun z => ?_⟩
      obtain ⟨xs, e⟩ := l a z
      rw [q] at e; cases e
    · exact .inr q
  | .dic _ _, _, _, h, _ => by rw [Rep] at h; exact h.elim
  | .fn f, _, _, h, _ => by rw [Rep] at h ⊢; exact h
  | .exn _ _, _, _, h, _ => by rw [Rep] at h ⊢; exact h
theorem RepL.keep (k : Keep O H H') (l : Lists O H) : ∀ {ts : List T} {vs : List V} {S : List Addr}, RepL K ad H ts vs S → (∀ a ∈ S, ¬ O a) → RepL K ad H' ts vs S
  | [], _, _, h, _ => by rw [RepL] at h ⊢; exact h
  | t :: ts, _, _, h, n => by
    rw [RepL] at h ⊢
    obtain ⟨v, vs', S1, S2, e, es, r, rr⟩ := h
    subst es
    exact ⟨v, vs', S1, S2, e, rfl, Rep.keep k l r fun a ha => n a (by simp [ha]), RepL.keep k l rr fun a ha => n a (by simp [ha])⟩
end
end

section
variable {K : PySem.W.Frag} {ad : Nat → Addr} {H H' : Hp} {O : Addr → Prop}
theorem Rep.grow (g : Grow H H') {t : T} {v : V} {S : List Addr} (h : Rep K ad H t v S) : Rep K ad H' t v S :=
  Rep.keep (O := fun _ => False) (g.keep _) (fun _ z => z.elim) h fun _ _ z => z
theorem RepL.grow (g : Grow H H') {t : List T} {v : List V} {S : List Addr} (h : RepL K ad H t v S) : RepL K ad H' t v S :=
  RepL.keep (O := fun _ => False) (g.keep _) (fun _ z => z.elim) h fun _ _ z => z
mutual
/-- the lists within are lists of the heap -/
theorem Rep.lists : ∀ {t : T} {v : V} {S : List Addr}, Rep K ad H t v S → ∀ a ∈ S, ∃ xs, H a = some (.lst xs)
  | .non, _, _, h, a, ha => by rw [Rep] at h; rw [h.2] at ha; cases ha
  | .bl b, _, _, h, a, ha => by rw [Rep] at h; rw [h.2] at ha; cases ha
  | .int i, _, _, h, a, ha => by rw [Rep] at h; rw [h.2] at ha; cases ha
  | .str x, _, _, h, a, ha => by rw [Rep] at h; rw [h.2] at ha; cases ha
  | .tup ts, _, _, h, a, ha => by
    rw [Rep] at h
    obtain ⟨b, vs, e, q, r⟩ := h
    exact RepL.lists r a ha
  | .lst ts, _, _, h, a, ha => by
    rw [Rep] at h
    obtain ⟨b, vs, S', e, q, es, r⟩ := h
    subst es
    rcases List.mem_cons.mp ha with z | z
    · subst z; exact ⟨_, q⟩
    · exact RepL.lists r a z
  | .frz ts, _, _, h, a, ha => by
    rw [Rep] at h
    obtain ⟨b, vs, e, q, r, es⟩ := h
    rw [es] at ha; cases ha
  | .dic _ _, _, _, h, _, _ => by rw [Rep] at h; exact h.elim
  | .fn f, _, _, h, a, ha => by rw [Rep] at h; rw [h.2] at ha; cases ha
  | .exn _ _, _, _, h, a, ha => by rw [Rep] at h; rw [h.2] at ha; cases ha
theorem RepL.lists : ∀ {ts : List T} {vs : List V} {S : List Addr}, RepL K ad H ts vs S → ∀ a ∈ S, ∃ xs, H a = some (.lst xs)
  | [], _, _, h, a, ha => by rw [RepL] at h; rw [h.2] at ha; cases ha
  | t :: ts, _, _, h, a, ha => by
    rw [RepL] at h
    obtain ⟨v, vs', S1, S2, e, es, r, rr⟩ := h
    subst es
    rcases List.mem_append.mp ha with z | z
    · exact Rep.lists r a z
    · exact RepL.lists rr a z
end
mutual
/-- without a list within: no lists -/
theorem Rep.lf : ∀ {t : T} {v : V} {S : List Addr}, Rep K ad H t v S → t.lf = true → S = []
  | .non, _, _, h, _ => by rw [Rep] at h; exact h.2
  | .bl b, _, _, h, _ => by rw [Rep] at h; exact h.2
  | .int i, _, _, h, _ => by rw [Rep] at h; exact h.2
  | .str x, _, _, h, _ => by rw [Rep] at h; exact h.2
  | .tup ts, _, _, h, l => by
    rw [Rep] at h
    obtain ⟨b, vs, e, q, r⟩ := h
    exact RepL.lf r (by simpa [T.lf] using l)
  | .lst ts, _, _, h, l => by simp [T.lf] at l
  | .frz ts, _, _, h, _ => by
    rw [Rep] at h
    obtain ⟨b, vs, e, q, r, es⟩ := h
    exact es
  | .dic _ _, _, _, h, _ => by rw [Rep] at h; exact h.elim
  | .fn f, _, _, h, _ => by rw [Rep] at h; exact h.2
  | .exn _ _, _, _, h, l => by simp [T.lf] at l
theorem RepL.lf : ∀ {ts : List T} {vs : List V} {S : List Addr}, RepL K ad H ts vs S → T.lfL ts = true → S = []
  | [], _, _, h, _ => by rw [RepL] at h; exact h.2
  | t :: ts, _, _, h, l => by
    rw [RepL] at h
    obtain ⟨v, vs', S1, S2, e, es, r, rr⟩ := h
    rw [T.lfL, Bool.and_eq_true] at l
    rw [es, Rep.lf r l.1, RepL.lf rr l.2]
    rfl
end
theorem RepL.length : ∀ {ts : List T} {vs : List V} {S : List Addr}, RepL K ad H ts vs S → ts.length = vs.length
  | [], _, _, h => by rw [RepL] at h; rw [h.1]; rfl
  | t :: ts, _, _, h => by
    rw [RepL] at h
    obtain ⟨v, vs', S1, S2, e, es, r, rr⟩ := h
    rw [e, List.length_cons, List.length_cons, RepL.length rr]
theorem RepL.nil : RepL K ad H [] [] [] := by rw [RepL]; exact ⟨rfl, rfl⟩
theorem RepL.cons {t : T} {ts : List T} {v : V} {vs : List V} {S1 S2 : List Addr} (h : Rep K ad H t v S1) (r : RepL K ad H ts vs S2) : RepL K ad H (t :: ts) (v :: vs) (S1 ++ S2) := by
  rw [RepL]; exact ⟨_, _, _, _, rfl, rfl, h, r⟩
theorem RepL.append : ∀ {ts us : List T} {vs ws : List V} {S1 S2 : List Addr}, RepL K ad H ts vs S1 → RepL K ad H us ws S2 → RepL K ad H (ts ++ us) (vs ++ ws) (S1 ++ S2)
  | [], _, _, _, _, _, h, r => by
    rw [RepL] at h
    rw [h.1, h.2]; exact r
  | t :: ts, _, _, _, _, _, h, r => by
    rw [RepL] at h
    obtain ⟨v, vs', S1, S2, e, es, q, rr⟩ := h
    subst e es
    rw [List.append_assoc]
    exact RepL.cons q (RepL.append rr r)
/-- one item of a row -/
theorem RepL.get : ∀ {ts : List T} {vs : List V} {S : List Addr} {i : Nat} {t : T}, RepL K ad H ts vs S → ts[i]? = some t → ∃ v S1, vs[i]? = some v ∧ Rep K ad H t v S1 ∧ (∀ a ∈ S1, a ∈ S)
  | [], _, _, _, _, _, e => by simp at e
  | t :: ts, _, _, 0, u, h, e => by
    rw [RepL] at h
    obtain ⟨v, vs', S1, S2, e', es, q, rr⟩ := h
    subst e' es
    have : t = u := by simpa using e
    subst this
    exact ⟨v, S1, rfl, q, fun a ha => by simp [ha]⟩
  | t :: ts, _, _, i + 1, u, h, e => by
    rw [RepL] at h
    obtain ⟨v, vs', S1, S2, e', es, q, rr⟩ := h
    subst e' es
    obtain ⟨w, S3, h1, h2, h3⟩ := RepL.get (i := i) (t := u) rr (by simpa using e)
    exact ⟨w, S3, by simpa using h1, h2, fun a ha => by simp [h3 a ha]⟩
/-- the other way: one value of a row -/
theorem RepL.getV : ∀ {ts : List T} {vs : List V} {S : List Addr} {i : Nat} {v : V}, RepL K ad H ts vs S → vs[i]? = some v → ∃ t S1, ts[i]? = some t ∧ Rep K ad H t v S1 ∧ (∀ a ∈ S1, a ∈ S)
  | [], _, _, _, _, h, e => by rw [RepL] at h; rw [h.1] at e; simp at e
  | t :: ts, _, _, 0, u, h, e => by
    rw [RepL] at h
    obtain ⟨v, vs', S1, S2, e', es, q, rr⟩ := h
    subst e' es
    have : v = u := by simpa using e
    subst this
    exact ⟨t, S1, rfl, q, fun a ha => by simp [ha]⟩
  | t :: ts, _, _, i + 1, u, h, e => by
    rw [RepL] at h
    obtain ⟨v, vs', S1, S2, e', es, q, rr⟩ := h
    subst e' es
    obtain ⟨w, S3, h1, h2, h3⟩ := RepL.getV (i := i) (v := u) rr (by simpa using e)
    exact ⟨w, S3, by simpa using h1, h2, fun a ha => by simp [h3 a ha]⟩
theorem RepL.drop : ∀ {ts : List T} {vs : List V} {S : List Addr} (n : Nat), RepL K ad H ts vs S → ∃ S1, RepL K ad H (ts.drop n) (vs.drop n) S1 ∧ S1.Sublist S
  | _, _, S, 0, h => ⟨S, by simpa using h, List.Sublist.refl _⟩
  | [], _, _, n + 1, h => by rw [RepL] at h; rw [h.1, h.2]; exact ⟨[], by simpa using RepL.nil, List.Sublist.refl _⟩
  | t :: ts, _, _, n + 1, h => by
    rw [RepL] at h
    obtain ⟨v, vs', S1, S2, e', es, q, rr⟩ := h
    subst e' es
    obtain ⟨S3, h1, h2⟩ := RepL.drop n rr
    exact ⟨S3, by simpa using h1, h2.trans (List.sublist_append_right _ _)⟩
theorem RepL.take : ∀ {ts : List T} {vs : List V} {S : List Addr} (n : Nat), RepL K ad H ts vs S → ∃ S1, RepL K ad H (ts.take n) (vs.take n) S1 ∧ S1.Sublist S
  | _, _, S, 0, h => ⟨[], by simpa using RepL.nil, List.nil_sublist _⟩
  | [], _, _, n + 1, h => by rw [RepL] at h; rw [h.1, h.2]; exact ⟨[], by simpa using RepL.nil, List.Sublist.refl _⟩
  | t :: ts, _, _, n + 1, h => by
    rw [RepL] at h
    obtain ⟨v, vs', S1, S2, e', es, q, rr⟩ := h
    subst e' es
    obtain ⟨S3, h1, h2⟩ := RepL.take n rr
    exact ⟨S1 ++ S3, by simpa using RepL.cons q h1, List.Sublist.append_left h2 _⟩
theorem RepL.ints : ∀ {ns : List Int}, RepL K ad H (ns.map T.int) (ns.map V.int) []
  | [] => RepL.nil
  | n :: r => by
    have h := RepL.ints (ns := r)
    exact RepL.cons (S1 := []) (S2 := []) (by rw [Rep]; exact ⟨rfl, rfl⟩) h
theorem intsOf_rep : ∀ {ts : List T} {ns : List Int} {vs : List V} {S : List Addr}, RepL K ad H ts vs S → intsOf ts = some ns → vs = ns.map V.int
  | [], ns, _, _, h, e => by
    rw [intsOf] at e; cases e
    rw [RepL] at h; exact h.1
  | t :: ts, ns, _, _, h, e => by
    rw [RepL] at h
    obtain ⟨v, vs', S1, S2, e', es, q, rr⟩ := h
    cases t <;> simp only [intsOf] at e <;> try cases e
    rename_i i
    cases e2 : intsOf ts with
    | none => rw [e2] at e; cases e
    | some ms =>
      rw [e2] at e
      simp only [Option.map_some, Option.some.injEq] at e
      subst e
      rw [Rep] at q
      rw [e', q.1, intsOf_rep rr e2]; rfl
theorem blsOf_rep : ∀ {ts : List T} {ns : List Bool} {vs : List V} {S : List Addr}, RepL K ad H ts vs S → blsOf ts = some ns → vs = ns.map V.bl
  | [], ns, _, _, h, e => by
    rw [blsOf] at e; cases e
    rw [RepL] at h; exact h.1
  | t :: ts, ns, _, _, h, e => by
    rw [RepL] at h
    obtain ⟨v, vs', S1, S2, e', es, q, rr⟩ := h
    cases t <;> simp only [blsOf] at e <;> try cases e
    rename_i i
    cases e2 : blsOf ts with
    | none => rw [e2] at e; cases e
    | some ms =>
      rw [e2] at e
      simp only [Option.map_some, Option.some.injEq] at e
      subst e
      rw [Rep] at q
      rw [e', q.1, blsOf_rep rr e2]; rfl
end

/-! ### the slots -/
def Ow.excl : Ow → Bool
  | .ow => true
  | .lk => true
  | _ => false
def SlotOk (K : PySem.W.Frag) (ad : Nat → Addr) (H : Hp) (x : Option (T × Ow)) (y : Option V) (S : List Addr) : Prop := match x with
  | none => S = []
  | some (t, w) => ∃ v, y = some v ∧ Rep K ad H t v S ∧ (w.excl = true → S.Nodup)
/-- the slot holds its lists alone -/
def exclAt (τ : Sl) (i : Nat) : Prop := ∃ t w, rd τ i = some (t, w) ∧ w.excl = true
/-- the lists that may be changed -/
def Own (τ : Sl) (Ss : Nat → List Addr) (a : Addr) : Prop := ∃ i t, rd τ i = some (t, .ow) ∧ a ∈ Ss i
structure Rel (K : PySem.W.Frag) (ad : Nat → Addr) (τ : Sl) (σ : St) (H : Hp) (Ss : Nat → List Addr) : Prop where
  len : τ.length = σ.length
  ok : ∀ i, SlotOk K ad H (rd τ i) ((σ[i]?).join) (Ss i)
  sep : ∀ i j, i ≠ j → exclAt τ i → ∀ a ∈ Ss i, a ∉ Ss j

section
variable {K : PySem.W.Frag} {ad : Nat → Addr} {H H' : Hp} {τ τ' : Sl} {σ : St} {Ss Ss' : Nat → List Addr}
theorem Rel.get (R : Rel K ad τ σ H Ss) {i : Nat} {t : T} {w : Ow} (h : rd τ i = some (t, w)) : ∃ v, σ[i]? = some (some v) ∧ Rep K ad H t v (Ss i) ∧ (w.excl = true → (Ss i).Nodup) := by
  have q := R.ok i
  rw [h] at q
  obtain ⟨v, e, r, n⟩ := q
  refine ⟨v, ?_, r, n⟩
  cases z : σ[i]? with
  | none => rw [z] at e; cases e
  | some o => rw [z] at e; cases o with
    | none => cases e
    | some u => cases e; rfl
theorem Rel.lists (R : Rel K ad τ σ H Ss) : Lists (Own τ Ss) H := fun a ⟨i, t, h, ha⟩ => by
  obtain ⟨v, _, r, _⟩ := R.get h
  exact r.lists a ha
end
/-- the lists that a slot holds alone -/
def Shut (τ : Sl) (Ss : Nat → List Addr) (a : Addr) : Prop := ∃ i, exclAt τ i ∧ a ∈ Ss i
/-- the lists that a value may bring along -/
def Src (τ : Sl) (Ss : Nat → List Addr) (a : Addr) : Prop := ∃ i t w, rd τ i = some (t, w) ∧ (w = .sh ∨ w = .ow) ∧ a ∈ Ss i
section
variable {K : PySem.W.Frag} {ad : Nat → Addr} {H H' : Hp} {τ τ' : Sl} {σ : St} {Ss Ss' : Nat → List Addr}
theorem Own.shut {a : Addr} (h : Own τ Ss a) : Shut τ Ss a := let ⟨i, t, e, q⟩ := h; ⟨i, ⟨t, .ow, e, rfl⟩, q⟩
theorem Own.src {a : Addr} (h : Own τ Ss a) : Src τ Ss a := let ⟨i, t, e, q⟩ := h; ⟨i, t, .ow, e, .inr rfl, q⟩
theorem Own.slot {a : Addr} (h : Own τ Ss a) : ∃ i, a ∈ Ss i := let ⟨i, _, _, q⟩ := h; ⟨i, q⟩
theorem Src.slot {a : Addr} (h : Src τ Ss a) : ∃ i, a ∈ Ss i := let ⟨i, _, _, _, _, q⟩ := h; ⟨i, q⟩
/-- what a slot holds is there -/
theorem Rel.there (R : Rel K ad τ σ H Ss) {i : Nat} {a : Addr} (h : a ∈ Ss i) : ∃ xs, H a = some (.lst xs) := by
  have ok := R.ok i
  cases e : rd τ i with
  | none => rw [e] at ok; have ok' : Ss i = [] := ok; rw [ok'] at h; cases h
  | some x =>
    rw [e] at ok
    obtain ⟨v, _, r, _⟩ := ok
    exact r.lists a h
theorem Rel.notShut (R : Rel K ad τ σ H Ss) {i : Nat} (h : ¬ exclAt τ i) : ∀ a ∈ Ss i, ¬ Shut τ Ss a := fun a ha ⟨j, hj, hja⟩ => by
  by_cases e : j = i
  · subst e; exact h hj
  · exact R.sep j i e hj a hja ha
theorem Rel.new (R : Rel K ad τ σ H Ss) {a : Addr} (h : H a = none) : (∀ i, a ∉ Ss i) ∧ ¬ Shut τ Ss a := by
  have n : ∀ i, a ∉ Ss i := fun i hi => by
    obtain ⟨xs, e⟩ := R.there hi
    rw [h] at e; cases e
  exact ⟨n, fun ⟨i, _, q⟩ => n i q⟩
end

/-- what an expression leaves -/
structure Post (K : PySem.W.Frag) (ad : Nat → Addr) (τ : Sl) (σ : St) (H : Hp) (Ss : Nat → List Addr) (τ' : Sl) (H' : Hp) (Ss' : Nat → List Addr) : Prop where
  rel : Rel K ad τ' σ H' Ss'
  keep : Keep (Own τ Ss) H H'
  there : ∀ a, H a ≠ none → H' a ≠ none
  sup : ∀ i a, a ∈ Ss' i → (∃ j, a ∈ Ss j) ∨ H a = none
  own : ∀ a, Own τ' Ss' a → Own τ Ss a ∨ H a = none
  shut : ∀ a, Shut τ' Ss' a → Shut τ Ss a ∨ H a = none
  src : ∀ a, Src τ' Ss' a → Src τ Ss a ∨ H a = none
  lk : ∀ i t, rd τ' i = some (t, .lk) → ∀ a ∈ Ss' i, (∃ t0, rd τ i = some (t0, .lk) ∧ a ∈ Ss i) ∨ Own τ Ss a ∨ H a = none
/-- a value apart from what may be changed; o: nobody else's -/
structure Val (K : PySem.W.Frag) (ad : Nat → Addr) (τ : Sl) (H : Hp) (Ss : Nat → List Addr) (t : T) (o : Bool) (v : V) (S : List Addr) : Prop where
  rep : Rep K ad H t v S
  free : ∀ a ∈ S, ¬ Shut τ Ss a
  mine : o = true → S.Nodup ∧ ∀ a ∈ S, ∀ i, a ∉ Ss i

section
variable {K : PySem.W.Frag} {ad : Nat → Addr} {H H1 H2 H' : Hp} {τ τ1 τ2 τ' : Sl} {σ : St} {Ss Ss1 Ss2 Ss' : Nat → List Addr}
theorem Post.refl (R : Rel K ad τ σ H Ss) : Post K ad τ σ H Ss τ H Ss := ⟨R, fun _ _ h _ => h, fun _ h => h, fun i _ h => .inl ⟨i, h⟩, fun _ h => .inl h, fun _ h => .inl h, fun _ h => .inl h, fun i t h a ha => .inl ⟨t, h, ha⟩⟩
theorem Post.back {σ' : St} (p : Post K ad τ σ' H Ss τ1 H1 Ss1) {a : Addr} (h : H1 a = none) : H a = none := Classical.byContradiction fun q => p.there a q h
theorem Post.trans {σ' : St} (a : Post K ad τ σ' H Ss τ1 H1 Ss1) (b : Post K ad τ1 σ H1 Ss1 τ2 H2 Ss2) : Post K ad τ σ H Ss τ2 H2 Ss2 where
  rel := b.rel
  keep := fun c o h n => by
    refine b.keep c o (a.keep c o h n) fun q => ?_
    rcases a.own c q with z | z
    · exact n z
    · rw [h] at z; cases z
  there := fun c h => b.there c (a.there c h)
  sup := fun i c h => by
    rcases b.sup i c h with ⟨j, z⟩ | z
    · exact a.sup j c z
    · exact .inr (a.back z)
  own := fun c h => (b.own c h).elim (a.own c) fun z => .inr (a.back z)
  shut := fun c h => (b.shut c h).elim (a.shut c) fun z => .inr (a.back z)
  src := fun c h => (b.src c h).elim (a.src c) fun z => .inr (a.back z)
  lk := fun i t h c hc => by
    rcases b.lk i t h c hc with ⟨t0, h0, h1⟩ | z | z
    · exact a.lk i t0 h0 c h1
    · exact .inr (a.own c z)
    · exact .inr (.inr (a.back z))
/-- a value outlasts what comes behind it -/
theorem Val.after {σ' : St} {t : T} {o : Bool} {v : V} {S : List Addr} (x : Val K ad τ H Ss t o v S) (R : Rel K ad τ σ' H Ss) (p : Post K ad τ σ H Ss τ1 H1 Ss1) : Val K ad τ1 H1 Ss1 t o v S where
  rep := x.rep.keep p.keep R.lists fun a ha q => x.free a ha q.shut
  free := fun a ha q => by
    rcases p.shut a q with z | z
    · exact x.free a ha z
    · obtain ⟨xs, e⟩ := x.rep.lists a ha
      rw [e] at z; cases z
  mine := fun h => by
    obtain ⟨n, d⟩ := x.mine h
    refine ⟨n, fun a ha i q => ?_⟩
    rcases p.sup i a q with ⟨j, z⟩ | z
    · exact d a ha j z
    · obtain ⟨xs, e⟩ := x.rep.lists a ha
      rw [e] at z; cases z
end

/-- what stays, without where it comes from -/
structure Lt (τ : Sl) (H : Hp) (Ss : Nat → List Addr) (τ' : Sl) (H' : Hp) (Ss' : Nat → List Addr) : Prop where
  keep : Keep (Own τ Ss) H H'
  there : ∀ a, H a ≠ none → H' a ≠ none
  own : ∀ a, Own τ' Ss' a → Own τ Ss a ∨ H a = none
  shut : ∀ a, Shut τ' Ss' a → Shut τ Ss a ∨ H a = none
section
variable {K : PySem.W.Frag} {ad : Nat → Addr} {H H1 H2 H' : Hp} {τ τ1 τ2 τ' : Sl} {σ : St} {Ss Ss1 Ss2 Ss' : Nat → List Addr}
theorem Post.lt (p : Post K ad τ σ H Ss τ1 H1 Ss1) : Lt τ H Ss τ1 H1 Ss1 := ⟨p.keep, p.there, p.own, p.shut⟩
theorem Lt.back (p : Lt τ H Ss τ1 H1 Ss1) {a : Addr} (h : H1 a = none) : H a = none := Classical.byContradiction fun q => p.there a q h
theorem Lt.trans (a : Lt τ H Ss τ1 H1 Ss1) (b : Lt τ1 H1 Ss1 τ2 H2 Ss2) : Lt τ H Ss τ2 H2 Ss2 where
  keep := fun c o h n => by
    refine b.keep c o (a.keep c o h n) fun q => ?_
    rcases a.own c q with z | z
    · exact n z
    · rw [h] at z; cases z
  there := fun c h => b.there c (a.there c h)
  own := fun c h => (b.own c h).elim (a.own c) fun z => .inr (a.back z)
  shut := fun c h => (b.shut c h).elim (a.shut c) fun z => .inr (a.back z)
end
end M
end

section
set_option Elab.async false
set_option autoImplicit false
set_option linter.all false
set_option maxRecDepth 100000
set_option maxHeartbeats 2000000
/-! SoundB: operations. -/
namespace M
open PySem (Addr Str PyData)
open L2 (V Hp HO SqT SqL Rd upd upd_same upd_ne St VK R2 OpR UnR CallR Dp DpAll)

theorem LIM_eq : PySem.sizeLine = LIM := PySem.sizeLine_eq

section
variable {K : PySem.W.Frag} {ad : Nat → Addr} {H H' : Hp}
theorem Rep.int_iff {i : Int} {v : V} {S : List Addr} : Rep K ad H (.int i) v S ↔ v = .int i ∧ S = [] := by rw [Rep]
theorem Rep.bl_iff {i : Bool} {v : V} {S : List Addr} : Rep K ad H (.bl i) v S ↔ v = .bl i ∧ S = [] := by rw [Rep]
theorem Rep.str_iff {i : Str} {v : V} {S : List Addr} : Rep K ad H (.str i) v S ↔ v = .str i ∧ S = [] := by rw [Rep]
theorem Rep.non_iff {v : V} {S : List Addr} : Rep K ad H .non v S ↔ v = .non ∧ S = [] := by rw [Rep]
theorem Rep.tup_iff {ts : List T} {v : V} {S : List Addr} : Rep K ad H (.tup ts) v S ↔ ∃ a vs, v = .ref a ∧ SqT K H a vs ∧ RepL K ad H ts vs S := by rw [Rep]
theorem Rep.lst_iff {ts : List T} {v : V} {S : List Addr} : Rep K ad H (.lst ts) v S ↔ ∃ a vs S', v = .ref a ∧ H a = some (.lst vs) ∧ S = a :: S' ∧ RepL K ad H ts vs S' := by rw [Rep]
theorem Rep.frz_iff {ts : List T} {v : V} {S : List Addr} : Rep K ad H (.frz ts) v S ↔ ∃ a vs, v = .ref a ∧ FrzT K H a vs ∧ RepL K ad H ts vs [] ∧ S = [] := by rw [Rep]

/-- what an operation leaves: its result, whose lists are given ones (of S0) or new -/
def OpP (K : PySem.W.Frag) (ad : Nat → Addr) (H : Hp) (k : Rk) (z : T) (S0 : List Addr) (Q : VK) : Prop :=
  ∀ w H' S, Rep K ad H' z w S → Grow H H' → (∀ a ∈ S, a ∈ S0 ∨ H a = none) → (k.own z = true → S.Nodup ∧ ∀ a ∈ S, H a = none) → Q w H'
variable {k : Rk} {z : T} {S0 : List Addr} {Q : VK}
theorem OpP.plain (h : OpP K ad H k z S0 Q) {w : V} (r : Rep K ad H z w []) : Q w H := h w H [] r (Grow.refl H) (by simp) fun _ => ⟨List.nodup_nil, by simp⟩
theorem OpP.int {i : Int} (h : OpP K ad H k (.int i) S0 Q) : Q (.int i) H := h.plain (by rw [Rep]; exact ⟨rfl, rfl⟩)
theorem OpP.bl {i : Bool} (h : OpP K ad H k (.bl i) S0 Q) : Q (.bl i) H := h.plain (by rw [Rep]; exact ⟨rfl, rfl⟩)
theorem OpP.str {i : Str} (h : OpP K ad H k (.str i) S0 Q) : Q (.str i) H := h.plain (by rw [Rep]; exact ⟨rfl, rfl⟩)
/-- a new list of given things -/
theorem OpP.lst {ts : List T} {vs : List V} {S : List Addr} (h : OpP K ad H .fresh (.lst ts) S0 Q) (r : RepL K ad H ts vs S) (hs : ∀ a ∈ S, a ∈ S0) {p : Addr} (hp : H p = none) : Q (.ref p) (upd H p (.lst vs)) := by
  have g := Grow.new (o := .lst vs) hp
  refine h _ _ (p :: S) (by rw [Rep]; exact ⟨p, vs, S, rfl, upd_same, rfl, r.grow g⟩) g (fun a ha => ?_) fun q => ?_
  · rcases List.mem_cons.mp ha with e | e
    · subst e; exact .inr hp
    · exact .inl (hs a e)
  · have e : S = [] := r.lf (by simpa [Rk.own, T.inner] using q)
    subst e
    exact ⟨by simp, by simpa using hp⟩
theorem OpP.lstP {ts : List T} {vs : List V} {S : List Addr} (h : OpP K ad H .plain (.lst ts) S0 Q) (r : RepL K ad H ts vs []) {p : Addr} (hp : H p = none) : Q (.ref p) (upd H p (.lst vs)) := by
  have g := Grow.new (o := .lst vs) hp
  exact h _ _ [p] (by rw [Rep]; exact ⟨p, vs, [], rfl, upd_same, rfl, r.grow g⟩) g (by simpa using .inr hp) fun _ => ⟨by simp, by simpa using hp⟩
/-- a new tuple of given things -/
theorem OpP.tup {ts : List T} {vs : List V} {S : List Addr} (h : OpP K ad H .fresh (.tup ts) S0 Q) (r : RepL K ad H ts vs S) (hs : ∀ a ∈ S, a ∈ S0) {p : Addr} (hp : H p = none) : Q (.ref p) (upd H p (.tup vs)) := by
  have g := Grow.new (o := .tup vs) hp
  refine h _ _ S (by rw [Rep]; exact ⟨p, vs, rfl, .inl (.inl upd_same), r.grow g⟩) g (fun a ha => .inl (hs a ha)) fun q => ?_
  have e : S = [] := r.lf (by simpa [Rk.own, T.inner] using q)
  subst e
  exact ⟨by simp, by simp⟩
/-- a given thing -/
theorem OpP.given {v : V} {S : List Addr} (h : OpP K ad H .given z S0 Q) (r : Rep K ad H z v S) (hs : ∀ a ∈ S, a ∈ S0) : Q v H :=
  h _ _ S r (Grow.refl H) (fun a ha => .inl (hs a ha)) fun q => by
    rw [r.lf (by simpa [Rk.own] using q)]; exact ⟨by simp, by simp⟩
theorem OpP.givenF {v : V} {S : List Addr} {ts : List T} (h : OpP K ad H .fresh (.tup ts) S0 Q) (r : Rep K ad H (.tup ts) v S) (hs : ∀ a ∈ S, a ∈ S0) : Q v H :=
  h _ _ S r (Grow.refl H) (fun a ha => .inl (hs a ha)) fun q => by
    rw [r.lf (by simpa [Rk.own, T.inner, T.lf] using q)]; exact ⟨by simp, by simp⟩
theorem OpP.mono {S1 : List Addr} (h : OpP K ad H k z S0 Q) (hs : ∀ a ∈ S1, a ∈ S0) : OpP K ad H k z S1 Q := fun w H' S r g m o => h w H' S r g (fun a ha => (m a ha).imp (hs a) id) o
end

/-! ### data for == -/
section
variable {K : PySem.W.Frag} {ad : Nat → Addr} {H : Hp}
mutual
theorem Rep.dp : ∀ {n : Nat} {t : T} {v : V} {S : List Addr}, Rep K ad H t v S → t.pd n = true → Dp K H v t.dat ∧ t.dat.canLay0 = true ∧ t.dat.depth ≤ n
  | n, .non, _, _, h, _ => by rw [Rep.non_iff] at h; rw [h.1, T.dat]; exact ⟨.non, rfl, by simp [PyData.depth]⟩
  | n, .bl b, _, _, h, _ => by rw [Rep.bl_iff] at h; rw [h.1, T.dat]; exact ⟨.bl b, rfl, by simp [PyData.depth]⟩
  | n, .int i, _, _, h, _ => by rw [Rep.int_iff] at h; rw [h.1, T.dat]; exact ⟨.int i, rfl, by simp [PyData.depth]⟩
  | n, .str x, _, _, h, p => by
    rw [Rep.str_iff] at h; rw [h.1, T.dat]
    have p' : PyData.strOk x = true := by cases n <;> simpa [T.pd] using p
    exact ⟨.str x, by simpa [PyData.canLay0] using p', by simp [PyData.depth]⟩
  | 0, .tup xs, _, _, h, p => by simp [T.pd] at p
  | 0, .lst xs, _, _, h, p => by simp [T.pd] at p
  | n + 1, .tup xs, _, _, h, p => by
    rw [Rep.tup_iff] at h
    obtain ⟨a, vs, e, q, r⟩ := h
    rw [e, T.dat]
    obtain ⟨d1, d2, d3⟩ := RepL.dp (n := n) r (by simpa [T.pd] using p)
    exact ⟨.tup q d1, by simpa [PyData.canLay0] using d2, by simp only [PyData.depth]; omega⟩
  | n + 1, .lst xs, _, _, h, p => by
    rw [Rep.lst_iff] at h
    obtain ⟨a, vs, S', e, q, _, r⟩ := h
    rw [e, T.dat]
    obtain ⟨d1, d2, d3⟩ := RepL.dp (n := n) r (by simpa [T.pd] using p)
    exact ⟨.lst (SqL.of q) d1, by simpa [PyData.canLay0] using d2, by simp only [PyData.depth]; omega⟩
  | n, .frz _, _, _, _, p => by cases n <;> simp [T.pd] at p
  | n, .dic _ _, _, _, _, p => by cases n <;> simp [T.pd] at p
  | n, .fn _, _, _, _, p => by cases n <;> simp [T.pd] at p
  | n, .exn _ _, _, _, _, p => by cases n <;> simp [T.pd] at p
theorem RepL.dp : ∀ {n : Nat} {ts : List T} {vs : List V} {S : List Addr}, RepL K ad H ts vs S → T.pdL n ts = true → DpAll K H vs (T.datL ts) ∧ PyData.canLayAll0 (T.datL ts) = true ∧ PyData.depthAll (T.datL ts) ≤ n
  | n, [], _, _, h, _ => by rw [RepL] at h; rw [h.1, T.datL]; exact ⟨.nil, rfl, by simp [PyData.depthAll]⟩
  | n, t :: ts, _, _, h, p => by
    rw [RepL] at h
    obtain ⟨v, vs', S1, S2, e, es, r, rr⟩ := h
    rw [T.pdL, Bool.and_eq_true] at p
    obtain ⟨a1, a2, a3⟩ := Rep.dp r p.1
    obtain ⟨b1, b2, b3⟩ := RepL.dp rr p.2
    rw [e, T.datL]
    exact ⟨.cons a1 b1, by rw [PyData.canLayAll0, a2, b2]; rfl, by simp only [PyData.depthAll]; omega⟩
end
theorem Rep.shaped {t : T} {v : V} {S : List Addr} (h : Rep K ad H t v S) (p : t.pd 60 = true) : Dp K H v t.dat ∧ PySem.SeqAt.shaped t.dat = true := by
  obtain ⟨a, b, c⟩ := h.dp p
  exact ⟨a, by unfold PySem.SeqAt.shaped; rw [b, decide_eq_true (by omega)]; rfl⟩
end
mutual
theorem T.eq_dat : ∀ {n m : Nat} (a b : T), a.pd n = true → b.pd m = true → a.eq b = PyData.eqv a.dat b.dat
  | n, m, a, b, ha, hb => by
    cases a <;> cases b <;> first
      | (cases n <;> simp [T.pd] at ha; done)
      | (cases m <;> simp [T.pd] at hb; done)
      | (simp only [T.eq, T.dat, PyData.eqv]; done)
      | skip
    · rename_i xs ys
      cases n with
      | zero => simp [T.pd] at ha
      | succ n => cases m with
        | zero => simp [T.pd] at hb
        | succ m =>
          simp only [T.eq, T.dat, PyData.eqv]
          exact T.eqL_dat xs ys (by simpa [T.pd] using ha) (by simpa [T.pd] using hb)
    · rename_i xs ys
      cases n with
      | zero => simp [T.pd] at ha
      | succ n => cases m with
        | zero => simp [T.pd] at hb
        | succ m =>
          simp only [T.eq, T.dat, PyData.eqv]
          exact T.eqL_dat xs ys (by simpa [T.pd] using ha) (by simpa [T.pd] using hb)
theorem T.eqL_dat : ∀ {n m : Nat} (a b : List T), T.pdL n a = true → T.pdL m b = true → T.eqL a b = PyData.eqvAll (T.datL a) (T.datL b)
  | _, _, [], [], _, _ => by simp only [T.eqL, T.datL, PyData.eqvAll]
  | _, _, [], _ :: _, _, _ => by simp only [T.eqL, T.datL, PyData.eqvAll]
  | _, _, _ :: _, [], _, _ => by simp only [T.eqL, T.datL, PyData.eqvAll]
  | n, m, x :: xs, y :: ys, ha, hb => by
    rw [T.pdL, Bool.and_eq_true] at ha hb
    simp only [T.eqL, T.datL, PyData.eqvAll]
    rw [T.eq_dat x y ha.1 hb.1, T.eqL_dat xs ys ha.2 hb.2]
end
end M
end

section
set_option Elab.async false
set_option autoImplicit false
set_option linter.all false
set_option maxRecDepth 100000
set_option maxHeartbeats 2000000
/-! SoundC: the operators' readings. -/
namespace M
open PySem (Addr Str PyData Operator CmpOp UnaryOp)
open L2 (V Hp HO SqT SqL Rd upd upd_same upd_ne St VK R2 OpR UnR CallR Dp DpAll rI0 rI Cx Room)

section
variable {X : Cx}
open PySem in
/-- x in t, t a tuple -/
def rInT (K : PySem.W.Frag) (neg : Bool) : R2 := fun x y H Q => ∃ d ds, Dp K H x d ∧ Dp K H y (.tuple ds) ∧ PySem.SeqAt.shaped d = true ∧ PySem.SeqAt.shaped (.tuple ds) = true ∧ Q (.bl (if neg then !ds.any fun z => PyData.eqv z d else ds.any fun z => PyData.eqv z d)) H
theorem op_inT (hu : X.A.units + 65 < PySem.cLine) : OpR X (PySem.compareOp .In) (rInT X.K false) := by
  intro pins s σ H x y v u Q I rx ry h
  obtain ⟨d, ds, hd, he, sd, se, q⟩ := h
  obtain ⟨as, r1⟩ := Dp.reads I d x v hd rx
  obtain ⟨bs, r2⟩ := Dp.reads I (.tuple ds) y u he ry
  exact PySem.SeqAt.in_tuple_reads r2 r1 (PySem.SeqAt.canLay_of_shaped se) (PySem.SeqAt.canLay_of_shaped sd) (PyProof.Rows.room_in_shaped sd hu) ⟨.bl _, H, I, rfl, q⟩
theorem op_notInT (hu : X.A.units + 65 < PySem.cLine) : OpR X (PySem.compareOp .NotIn) (rInT X.K true) := by
  intro pins s σ H x y v u Q I rx ry h
  obtain ⟨d, ds, hd, he, sd, se, q⟩ := h
  obtain ⟨as, r1⟩ := Dp.reads I d x v hd rx
  obtain ⟨bs, r2⟩ := Dp.reads I (.tuple ds) y u he ry
  exact PySem.SeqAt.notIn_tuple_reads r2 r1 (PySem.SeqAt.canLay_of_shaped se) (PySem.SeqAt.canLay_of_shaped sd) (PyProof.Rows.room_in_shaped sd hu) ⟨.bl _, H, I, rfl, q⟩
end

/-- the readings of the operators -/
def rStrAdd : R2 := fun x y H Q => ∃ i j, x = .str i ∧ y = .str j ∧ i.length + j.length ≤ PySem.sizeLine ∧ Q (.str (i ++ j)) H
def rOr (a b : R2) : R2 := fun x y H Q => a x y H Q ∨ b x y H Q
def r2 (K : PySem.W.Frag) : O2 → R2
  | .add => rOr (rOr (rI0 fun i j => .int (i + j)) rStrAdd) (rOr (L2.rCatA K) L2.rCat)
  | .sub => rI0 fun i j => .int (i - j)
  | .mul => rOr (rI L2.CMul fun i j => .int (i * j)) (rOr L2.rRep (L2.rRepT K))
  | .fdiv => rI L2.CDivN fun i j => .int (i.fdiv j)
  | .mod => rI (fun _ j => j ≠ 0) fun i j => .int (i.fmod j)
  | .shl => rI L2.CPow fun i j => .int (i * 2 ^ j.toNat)
  | .shr => rI (fun _ j => 0 ≤ j) fun i j => .int (i / 2 ^ j.toNat)
  | .band => rI0 fun i j => .int (PySem.Builtin.bitAnd i j)
  | .bor => rI0 fun i j => .int (PySem.Builtin.bitOr i j)
  | .bxor => rI0 fun i j => .int (PySem.Builtin.bitXor i j)
  | .eq => L2.rEqD K
  | .ne => L2.rNeD K
  | .lt => rI0 fun i j => .bl (decide (i < j))
  | .le => rI0 fun i j => .bl (decide (i ≤ j))
  | .gt => rI0 fun i j => .bl (decide (j < i))
  | .ge => rI0 fun i j => .bl (decide (j ≤ i))
  | .mem => rOr (fun x y H Q => ∃ i j, x = .str i ∧ y = .str j ∧ Q (.bl (!(PySem.Builtin.Str.occurrences j i 0 j.length 1).isEmpty)) H) (rOr (L2.rInD K) (rInT K false))
  | .nmem => rOr (fun x y H Q => ∃ i j, x = .str i ∧ y = .str j ∧ Q (.bl (!(!(PySem.Builtin.Str.occurrences j i 0 j.length 1).isEmpty))) H) (rOr (L2.rNotInD K) (rInT K true))
  | .isB => L2.rIsB
  | .notB => L2.rNotB
  | .idx => L2.rIx K
  | _ => fun _ _ _ _ => False
def bop : Operator → Option O2
  | .Add => some .add
  | .Sub => some .sub
  | .Mult => some .mul
  | .FloorDiv => some .fdiv
  | .Mod => some .mod
  | .LShift => some .shl
  | .RShift => some .shr
  | .BitAnd => some .band
  | .BitOr => some .bor
  | .BitXor => some .bxor
  | _ => none
def cop : CmpOp → Option O2
  | .Eq => some .eq
  | .NotEq => some .ne
  | .Lt => some .lt
  | .LtE => some .le
  | .Gt => some .gt
  | .GtE => some .ge
  | .In => some .mem
  | .NotIn => some .nmem
  | .Is => some .isB
  | .IsNot => some .notB
section
variable {X : Cx}
theorem op_str_add : OpR X (PySem.binaryOp .Add) rStrAdd := L2.op_add_str
theorem bop_ok {op : Operator} {o : O2} (h : bop op = some o) : OpR X (PySem.binaryOp op) (r2 X.K o) := by
  cases op <;> simp only [bop, Option.some.injEq, reduceCtorEq] at h <;> subst h
  · exact (L2.op_add.or op_str_add).or (L2.op_catA.or L2.op_cat)
  · exact L2.op_sub
  · exact L2.op_mul.or (L2.op_rep.or L2.op_repT)
  · exact L2.op_modN
  · exact L2.op_shl
  · exact L2.op_shr
  · exact L2.op_or
  · exact L2.op_xor
  · exact L2.op_and
  · exact L2.op_fdivN
theorem cop_ok {k : Nat} (hr : Room k X.A) {op : CmpOp} {o : O2} (h : cop op = some o) : OpR X (PySem.compareOp op) (r2 X.K o) := by
  have h64 := hr.units
  have h65 : X.A.units + 65 < PySem.cLine := by have := hr.un; omega
  cases op <;> simp only [cop, Option.some.injEq, reduceCtorEq] at h <;> subst h
  · exact L2.op_eqD h64
  · exact L2.op_neD h64
  · exact L2.op_lt
  · exact L2.op_le
  · exact L2.op_gt
  · exact L2.op_ge
  · exact L2.op_isBl
  · exact L2.op_notBl
  · exact L2.op_in_str.or ((L2.op_inD h65).or (op_inT h65))
  · exact L2.op_notin_str.or ((L2.op_notInD h65).or (op_notInT h65))
end
/-- op= of names that hold no lists: ints, texts -/
def iop : Operator → Option O2
  | .Add => some .add
  | .Sub => some .sub
  | _ => none
def r2I (K : PySem.W.Frag) : O2 → R2
  | .add => rOr (rI0 fun i j => .int (i + j)) rStrAdd
  | .sub => rI0 fun i j => .int (i - j)
  | _ => fun _ _ _ _ => False
theorem iop_ok {X : Cx} {op : Operator} {o : O2} (h : iop op = some o) : OpR X (PySem.inplaceOp op) (r2I X.K o) := by
  cases op <;> simp only [iop, Option.some.injEq, reduceCtorEq] at h <;> subst h
  · exact L2.iop_add.or L2.iop_add_str
  · exact L2.iop_sub

section
variable {K : PySem.W.Frag} {ad : Nat → Addr} {H : Hp} {a b z : T} {v w : V} {S1 S2 : List Addr} {Q : VK}
theorem datL_any {d : T} {ys : List T} {n m : Nat} (h : T.pdL m ys = true) (hd : d.pd n = true) : ((T.datL ys).any fun z => PyData.eqv z d.dat) = ys.any fun z => z.eq d := by
  induction ys with
  | nil => rfl
  | cons y ys ih =>
    rw [T.pdL, Bool.and_eq_true] at h
    rw [T.datL, List.any_cons, List.any_cons, ih h.2, T.eq_dat y d h.1 hd]
theorem pdL_pd : ∀ {n : Nat} {ys : List T}, T.pdL n ys = true → (T.tup ys).pd (n + 1) = true ∧ (T.lst ys).pd (n + 1) = true := fun h => ⟨by simpa [T.pd] using h, by simpa [T.pd] using h⟩
theorem cut_rep {ts : List T} {vs : List V} {S : List Addr} (r : RepL K ad H ts vs S) (lo hi : Option Int) : ∃ S', RepL K ad H (cut ts lo hi) (L2.cutV vs lo hi) S' ∧ ∀ x ∈ S', x ∈ S := by
  have hl := r.length
  have e : ∀ n d o, sIx n d o = HT.sIx n d o := fun n d o => by cases o <;> rfl
  unfold cut L2.cutV
  rw [hl]
  obtain ⟨S3, h3, l3⟩ := r.drop (sIx vs.length 0 lo)
  obtain ⟨S4, h4, l4⟩ := h3.take (sIx vs.length vs.length hi - sIx vs.length 0 lo)
  exact ⟨S4, h4, fun x hx => l3.subset (l4.subset hx)⟩
theorem rep_flat {ts : List T} {vs : List V} {S : List Addr} (r : RepL K ad H ts vs S) : ∀ k : Nat, ∃ S', RepL K ad H (List.replicate k ts).flatten (List.replicate k vs).flatten S' ∧ ∀ x ∈ S', x ∈ S
  | 0 => ⟨[], RepL.nil, by simp⟩
  | k + 1 => by
    obtain ⟨S', h, l⟩ := rep_flat r k
    exact ⟨S ++ S', by simpa [List.replicate_succ] using r.append h, fun x hx => (List.mem_append.mp hx).elim id (l x)⟩

theorem RepL.nil_iff {ts : List T} {vs : List V} {S : List Addr} (r : RepL K ad H ts vs S) : ts = [] ↔ vs = [] := by
  have := r.length
  constructor <;> intro e <;> subst e
  · exact List.length_eq_zero_iff.mp (by simpa using this.symm)
  · exact List.length_eq_zero_iff.mp (by simpa using this)
theorem add_sound (h : addT a b = some z) (r1 : Rep K ad H a v S1) (r2 : Rep K ad H b w S2) (q : OpP K ad H .fresh z (S1 ++ S2) Q) : M.r2 K .add v w H Q := by
  unfold addT at h
  split at h
  · cases h
    rw [Rep.int_iff] at r1 r2
    exact .inl (.inl ⟨_, _, r1.1, r2.1, q.int⟩)
  · split at h
    · rename_i hl
      cases h
      rw [Rep.str_iff] at r1 r2
      exact .inl (.inr ⟨_, _, r1.1, r2.1, by rw [LIM_eq]; exact hl, q.str⟩)
    · cases h
  · split at h
    · rename_i xs ys hl
      cases h
      have r1' := r1
      have r2' := r2
      rw [Rep.tup_iff] at r1 r2
      obtain ⟨p1, vs, e1, t1, l1⟩ := r1
      obtain ⟨p2, ws, e2, t2, l2⟩ := r2
      refine .inr (.inl ⟨p1, p2, vs, ws, e1, e2, t1, t2, by rw [LIM_eq, ← l1.length, ← l2.length]; exact hl, fun e => ?_, fun _ e => ?_, fun _ _ p hp => q.tup (l1.append l2) (fun _ x => x) hp⟩)
      · have := (l1.nil_iff).mpr e
        subst this
        rw [← e2]
        exact q.givenF (by simpa using r2') fun x hx => by simp [hx]
      · have := (l2.nil_iff).mpr e
        subst this
        rw [← e1]
        exact q.givenF (by simpa using r1') fun x hx => by simp [hx]
    · cases h
  · split at h
    · rename_i xs ys hl
      cases h
      rw [Rep.lst_iff] at r1 r2
      obtain ⟨p1, vs, S1', e1, t1, es1, l1⟩ := r1
      obtain ⟨p2, ws, S2', e2, t2, es2, l2⟩ := r2
      subst es1 es2
      exact .inr (.inr ⟨p1, p2, vs, ws, e1, e2, t1, t2, by rw [LIM_eq, ← l1.length, ← l2.length]; exact hl, fun p hp => q.lst (l1.append l2) (fun x hx => by simp at hx ⊢; rcases hx with z | z <;> simp [z]) hp⟩)
    · cases h
  · cases h
theorem mul_sound (h : mulT a b = some z) (r1 : Rep K ad H a v S1) (r2 : Rep K ad H b w S2) (q : OpP K ad H .fresh z (S1 ++ S2) Q) : M.r2 K .mul v w H Q := by
  unfold mulT at h
  split at h
  · split at h
    · rename_i i j hc
      cases h
      rw [Rep.int_iff] at r1 r2
      exact .inl ⟨_, _, r1.1, r2.1, by unfold mulOk at hc; have := of_decide_eq_true hc; exact this, q.int⟩
    · cases h
  · split at h
    · rename_i xs k hc
      cases h
      rw [Rep.lst_iff] at r1
      rw [Rep.int_iff] at r2
      obtain ⟨p1, vs, S1', e1, t1, es1, l1⟩ := r1
      subst es1
      obtain ⟨S', f, fl⟩ := rep_flat l1 k.toNat
      refine .inr (.inl ⟨p1, k, vs, e1, r2.1, t1, ?_, ?_, by rw [LIM_eq, ← l1.length]; exact hc.2.2, fun p hp => q.lst f (fun x hx => by simp [fl x hx]) hp⟩)
      · have := hc.1; unfold RMAX at this; omega
      · have := hc.2.1; unfold LIM at this; omega
    · cases h
  · split at h
    · rename_i xs k hc
      cases h
      rw [Rep.tup_iff] at r1
      rw [Rep.int_iff] at r2
      obtain ⟨p1, vs, e1, t1, l1⟩ := r1
      obtain ⟨S', f, fl⟩ := rep_flat l1 k.toNat
      refine .inr (.inr ⟨p1, k, vs, e1, r2.1, t1, fun e => ?_, hc.1, hc.2.1, by rw [← l1.length]; exact hc.2.2.2, fun p hp => q.tup f (fun x hx => by simp [fl x hx]) hp⟩)
      have := (l1.nil_iff).mpr e
      subst this
      simp at hc
    · cases h
  · cases h
theorem eq_sound (h : eqT a b = some z) (r1 : Rep K ad H a v S1) (r2 : Rep K ad H b w S2) (q : OpP K ad H .plain z (S1 ++ S2) Q) : M.r2 K .eq v w H Q := by
  unfold eqT at h
  split at h
  · rename_i hc
    cases h
    rw [Bool.and_eq_true] at hc
    obtain ⟨d1, s1⟩ := r1.shaped hc.1
    obtain ⟨d2, s2⟩ := r2.shaped hc.2
    refine ⟨_, _, d1, d2, s1, s2, ?_⟩
    rw [← T.eq_dat a b hc.1 hc.2]
    exact q.bl
  · cases h
theorem ne_sound (h : neT a b = some z) (r1 : Rep K ad H a v S1) (r2 : Rep K ad H b w S2) (q : OpP K ad H .plain z (S1 ++ S2) Q) : M.r2 K .ne v w H Q := by
  unfold neT at h
  split at h
  · rename_i hc
    cases h
    rw [Bool.and_eq_true] at hc
    obtain ⟨d1, s1⟩ := r1.shaped hc.1
    obtain ⟨d2, s2⟩ := r2.shaped hc.2
    refine ⟨_, _, d1, d2, s1, s2, ?_⟩
    rw [← T.eq_dat a b hc.1 hc.2]
    exact q.bl
  · cases h
theorem mem_sound {neg : Bool} {k : Bool} (h : memT a b = some k) (hz : z = .bl (if neg then !k else k)) (r1 : Rep K ad H a v S1) (r2 : Rep K ad H b w S2) (q : OpP K ad H .plain z (S1 ++ S2) Q) : M.r2 K (if neg then .nmem else .mem) v w H Q := by
  subst hz
  unfold memT at h
  split at h
  · rename_i ys
    split at h
    · rename_i hc
      cases h
      rw [Bool.and_eq_true] at hc
      obtain ⟨d1, s1⟩ := r1.shaped hc.1
      obtain ⟨d2, s2⟩ := r2.shaped (pdL_pd hc.2).1
      rw [T.dat] at d2 s2
      have e := datL_any (d := a) hc.2 hc.1
      cases neg
      · refine .inr (.inr ⟨_, _, d1, d2, s1, s2, ?_⟩)
        rw [e]; exact q.bl
      · refine .inr (.inr ⟨_, _, d1, d2, s1, s2, ?_⟩)
        rw [e]; exact q.bl
    · cases h
  · rename_i ys
    split at h
    · rename_i hc
      cases h
      rw [Bool.and_eq_true] at hc
      obtain ⟨d1, s1⟩ := r1.shaped hc.1
      obtain ⟨d2, s2⟩ := r2.shaped (pdL_pd hc.2).2
      rw [T.dat] at d2 s2
      have e := datL_any (d := a) hc.2 hc.1
      cases neg
      · refine .inr (.inl ⟨_, _, d1, d2, s1, s2, ?_⟩)
        rw [e]; exact q.bl
      · refine .inr (.inl ⟨_, _, d1, d2, s1, s2, ?_⟩)
        rw [e]; exact q.bl
    · cases h
  · rename_i ks vs
    rw [Rep] at r2
    exact r2.elim
  · split at h
    · cases h
      rw [Rep.str_iff] at r1 r2
      cases neg
      · exact .inl ⟨_, _, r1.1, r2.1, q.bl⟩
      · exact .inl ⟨_, _, r1.1, r2.1, q.bl⟩
    · cases h
  · cases h
theorem idx_sound (h : idxT a b = some z) (r1 : Rep K ad H a v S1) (r2 : Rep K ad H b w S2) (q : OpP K ad H .given z (S1 ++ S2) Q) : M.r2 K .idx v w H Q := by
  have e : ∀ n i, ixN n i = L2.ixN n i := fun n i => rfl
  unfold idxT at h
  split at h
  · rename_i xs i
    rw [Rep.tup_iff] at r1
    rw [Rep.int_iff] at r2
    obtain ⟨p1, vs, e1, t1, l1⟩ := r1
    obtain ⟨j, hj, hx⟩ := Option.bind_eq_some_iff.mp h
    obtain ⟨u, S3, h1, h2, h3⟩ := l1.get hx
    refine .inr (.inl ⟨p1, vs, i, u, e1, r2.1, t1, ?_, q.given h2 fun x hx => by simp [h3 x hx]⟩)
    unfold L2.atI
    rw [← l1.length, ← e, hj]
    exact h1
  · rename_i xs i
    rw [Rep.lst_iff] at r1
    rw [Rep.int_iff] at r2
    obtain ⟨p1, vs, S1', e1, t1, es1, l1⟩ := r1
    subst es1
    obtain ⟨j, hj, hx⟩ := Option.bind_eq_some_iff.mp h
    obtain ⟨u, S3, h1, h2, h3⟩ := l1.get hx
    refine .inl ⟨p1, vs, i, u, e1, r2.1, SqL.of t1, ?_, q.given h2 fun x hx => by simp [h3 x hx]⟩
    unfold L2.atI
    rw [← l1.length, ← e, hj]
    exact h1
  · rename_i xs i
    rw [Rep.frz_iff] at r1
    rw [Rep.int_iff] at r2
    obtain ⟨p1, vs, e1, t1, l1, es1⟩ := r1
    obtain ⟨j, hj, hx⟩ := Option.bind_eq_some_iff.mp h
    obtain ⟨u, S3, h1, h2, h3⟩ := l1.get hx
    refine .inl ⟨p1, vs, i, u, e1, r2.1, t1.sql, ?_, q.given h2 fun x hx => by cases h3 x hx⟩
    unfold L2.atI
    rw [← l1.length, ← e, hj]
    exact h1
  · rename_i x i
    rw [Rep.str_iff] at r1
    rw [Rep.int_iff] at r2
    split at h
    · rename_i hl
      obtain ⟨c, hc, hz⟩ := Option.map_eq_some_iff.mp h
      subst hz
      exact .inr (.inr ⟨x, i, c, r1.1, r2.1, by rw [LIM_eq]; exact hl, hc, q.str⟩)
    · cases h
  · cases h
/-- the operations that r2 reads -/
def O2.read : O2 → Bool
  | .add | .sub | .mul | .fdiv | .mod | .shl | .shr | .band | .bor | .bxor | .eq | .ne | .lt | .le | .gt | .ge | .mem | .nmem | .isB | .notB | .idx => true
  | _ => false
theorem o2_sound {o : O2} (hr : o.read = true) (h : o2 o a b = some z) (r1 : Rep K ad H a v S1) (r2 : Rep K ad H b w S2) (q : OpP K ad H o.rk z (S1 ++ S2) Q) : M.r2 K o v w H Q := by
  have ii : ∀ {f : Int → Int → T} {k : Int → Int → Option T}, (∀ i j, k i j = some (f i j)) → True := fun _ => trivial
  cases o <;> (try (simp [O2.read] at hr; done))
  case add => exact add_sound h r1 r2 q
  case mul => exact mul_sound h r1 r2 q
  case eq => exact eq_sound h r1 r2 q
  case ne => exact ne_sound h r1 r2 q
  case idx => exact idx_sound h r1 r2 q
  case mem =>
    obtain ⟨k, hk, e⟩ := Option.map_eq_some_iff.mp (show (memT a b).map T.bl = some z from h)
    exact mem_sound (neg := false) hk e.symm r1 r2 q
  case nmem =>
    obtain ⟨k, hk, e⟩ := Option.map_eq_some_iff.mp (show (memT a b).map (fun k => T.bl (!k)) = some z from h)
    exact mem_sound (neg := true) hk e.symm r1 r2 q
  case isB =>
    cases a <;> cases b <;> simp only [o2, Option.some.injEq, reduceCtorEq] at h
    subst h
    rw [Rep.bl_iff] at r1 r2
    exact ⟨_, _, r1.1, r2.1, q.bl⟩
  case notB =>
    cases a <;> cases b <;> simp only [o2, Option.some.injEq, reduceCtorEq] at h
    subst h
    rw [Rep.bl_iff] at r1 r2
    exact ⟨_, _, r1.1, r2.1, q.bl⟩
  all_goals
    cases a <;> cases b <;> simp only [o2, Option.some.injEq, reduceCtorEq, Option.ite_none_right_eq_some] at h
    rw [Rep.int_iff] at r1 r2
    first
      | (subst h; first | exact ⟨_, _, r1.1, r2.1, q.int⟩ | exact ⟨_, _, r1.1, r2.1, q.bl⟩)
      | (obtain ⟨hc, h⟩ := h; subst h; first | exact ⟨_, _, r1.1, r2.1, hc, q.int⟩ | exact ⟨_, _, r1.1, r2.1, (by unfold shlOk at hc; have := of_decide_eq_true hc; exact this), q.int⟩)
theorem bop_read {op : Operator} {o : O2} (h : bop op = some o) : o.read = true := by
  cases op <;> simp only [bop, Option.some.injEq, reduceCtorEq] at h <;> subst h <;> rfl
theorem cop_read {op : CmpOp} {o : O2} (h : cop op = some o) : o.read = true := by
  cases op <;> simp only [cop, Option.some.injEq, reduceCtorEq] at h <;> subst h <;> rfl
end
end M
end

section
set_option Elab.async false
set_option autoImplicit false
set_option linter.all false
set_option maxRecDepth 100000
set_option maxHeartbeats 2000000
/-! SoundD: built-ins of one value, slices. -/
namespace M
open PySem (Addr Str PyData Operator CmpOp UnaryOp Value)
open L2 (V Hp HO SqT SqL Rd upd upd_same upd_ne St VK R2 OpR UnR CallR Dp DpAll rI0 rI Cx Room TruV)

section
variable {K : PySem.W.Frag} {ad : Nat → Addr} {H : Hp} {a b z : T} {v w : V} {S S1 S2 : List Addr} {Q : VK}
theorem isEmpty_of {ts : List T} {vs : List V} (r : RepL K ad H ts vs S) : ts.isEmpty = vs.isEmpty := by
  have := r.length
  cases ts <;> cases vs <;> simp at this ⊢
theorem tru_sound {k : Bool} (h : a.tr = some k) (r : Rep K ad H a v S) : TruV K v H k := by
  cases a <;> simp only [T.tr, Option.some.injEq, Option.ite_none_right_eq_some, reduceCtorEq] at h
  · rw [Rep.non_iff] at r; rw [r.1]; exact h.symm
  · rw [Rep.bl_iff] at r; rw [r.1]; exact h.symm
  · rw [Rep.int_iff] at r; rw [r.1]; exact h.symm
  · rw [Rep.str_iff] at r; rw [r.1]; exact ⟨by rw [LIM_eq]; exact h.1, h.2.symm⟩
  · rw [Rep.tup_iff] at r
    obtain ⟨p, vs, e, t, l⟩ := r
    rw [e]
    exact .inr (.inl ⟨vs, t, by rw [← h, isEmpty_of l]⟩)
  · rw [Rep.lst_iff] at r
    obtain ⟨p, vs, S', e, t, _, l⟩ := r
    rw [e]
    exact .inl ⟨vs, SqL.of t, by rw [← h, isEmpty_of l]⟩

/-! ### built-ins by name, of one value -/
/-- the built-in that an operation calls -/
def nm1 : O1 → Option (Str × Value)
  | .len => some ("len", .builtin "len")
  | .tuple => some ("tuple", .type "tuple")
  | .list => some ("list", .type "list")
  | .sum => some ("sum", .builtin "sum")
  | .any => some ("any", .builtin "any")
  | .all => some ("all", .builtin "all")
  | .abs => some ("abs", .builtin "abs")
  | .int => some ("int", .type "int")
  | _ => none
abbrev RC := List V → Hp → VK → Prop
def rcOr (a b : RC) : RC := fun x H Q => a x H Q ∨ b x H Q
def r1 (K : PySem.W.Frag) : O1 → RC
  | .len => rcOr (fun xs H Q => ∃ p ys, xs = [.ref p] ∧ (SqL K H p ys ∨ SqT K H p ys) ∧ Q (.int ys.length) H) (fun xs H Q => ∃ z, xs = [.str z] ∧ z.length ≤ PySem.sizeLine ∧ Q (.int z.length) H)
  | .tuple => fun xs H Q => ∃ p ys, xs = [.ref p] ∧ ((SqL K H p ys ∧ ∀ l, H l = none → Q (.ref l) (upd H l (.tup ys))) ∨ (SqT K H p ys ∧ Q (.ref p) H))
  | .list => fun xs H Q => ∃ p ys, xs = [.ref p] ∧ (SqL K H p ys ∨ SqT K H p ys) ∧ ∀ l, H l = none → Q (.ref l) (upd H l (.lst ys))
  | .sum => L2.rSum K
  | .any => L2.rAny K
  | .all => L2.rAll K
  | .abs => fun xs H Q => ∃ i, xs = [.int i] ∧ Q (.int (if i < 0 then -i else i)) H
  | .int => fun xs H Q => (∃ i, xs = [.int i] ∧ Q (.int i) H) ∨ ∃ k, xs = [.bl k] ∧ Q (.int (if k then 1 else 0)) H
  | _ => fun _ _ _ => False
theorem c1_ok {X : Cx} (hc : X.calm = true) {o : O1} {x : Str} {f : Value} (h : nm1 o = some (x, f)) : CallR X f (r1 X.K o) := by
  cases o <;> simp only [nm1, Option.some.injEq, Prod.mk.injEq, reduceCtorEq] at h <;> obtain ⟨rfl, rfl⟩ := h
  · exact L2.call_len_seq.or L2.call_len_str
  · exact L2.call_tuple_of
  · exact L2.call_list_of
  · exact L2.cr_sum hc
  · exact L2.cr_any hc
  · exact L2.cr_all hc
  · exact L2.call_abs
  · exact L2.call_int1
theorem nm1_boot {o : O1} {x : Str} {f : Value} (h : nm1 o = some (x, f)) : PySem.bootBuiltins x = some f ∧ x ≠ "__name__" ∧ (x == ("__debug__" : Str)) = false ∧ ((∃ id, f = .builtin id) ∨ ∃ t, f = .type t) := by
  cases o <;> simp only [nm1, Option.some.injEq, Prod.mk.injEq, reduceCtorEq] at h <;> obtain ⟨rfl, rfl⟩ := h
  all_goals refine ⟨by decide +kernel, by decide, by decide, ?_⟩
  all_goals first | exact .inl ⟨_, rfl⟩ | exact .inr ⟨_, rfl⟩
theorem c1_sound {o : O1} {x : Str} {f : Value} (hn : nm1 o = some (x, f)) (h : o1 o a = some z) (r : Rep K ad H a v S) (q : OpP K ad H o.rk z S Q) : r1 K o [v] H Q := by
  cases o <;> simp only [nm1, reduceCtorEq] at hn
  case len =>
    have h' : lenT a = some z := h
    unfold lenT at h'
    split at h'
    · cases h'
      rw [Rep.tup_iff] at r
      obtain ⟨p, vs, e, t, l⟩ := r
      subst e
      refine .inl ⟨p, vs, rfl, .inr t, ?_⟩
      rw [← l.length]; exact q.int
    · cases h'
      rw [Rep.lst_iff] at r
      obtain ⟨p, vs, S', e, t, _, l⟩ := r
      subst e
      refine .inl ⟨p, vs, rfl, .inl (SqL.of t), ?_⟩
      rw [← l.length]; exact q.int
    · cases h'
      rw [Rep.frz_iff] at r
      obtain ⟨p, vs, e, t, l, _⟩ := r
      subst e
      refine .inl ⟨p, vs, rfl, .inl t.sql, ?_⟩
      rw [← l.length]; exact q.int
    · split at h'
      · rename_i hl
        cases h'
        rw [Rep.str_iff] at r
        obtain ⟨e, _⟩ := r
        subst e
        exact .inr ⟨_, rfl, by rw [LIM_eq]; exact hl, q.int⟩
      · cases h'
    · cases h'
  case tuple =>
    have h' : tupleT a = some z := h
    unfold tupleT at h'
    split at h'
    · cases h'
      have r' := r
      rw [Rep.tup_iff] at r
      obtain ⟨p, vs, e, t, l⟩ := r
      subst e
      exact ⟨p, vs, rfl, .inr ⟨t, q.givenF r' fun _ h => h⟩⟩
    · cases h'
      rw [Rep.lst_iff] at r
      obtain ⟨p, vs, S', e, t, es, l⟩ := r
      subst e es
      exact ⟨p, vs, rfl, .inl ⟨SqL.of t, fun l' hl => q.tup l (fun _ hx => by simp [hx]) hl⟩⟩
    · cases h'
  case list =>
    have h' : listT a = some z := h
    unfold listT at h'
    split at h'
    · cases h'
      rw [Rep.tup_iff] at r
      obtain ⟨p, vs, e, t, l⟩ := r
      subst e
      exact ⟨p, vs, rfl, .inr t, fun l' hl => q.lst l (fun _ hx => hx) hl⟩
    · cases h'
      rw [Rep.lst_iff] at r
      obtain ⟨p, vs, S', e, t, es, l⟩ := r
      subst e es
      exact ⟨p, vs, rfl, .inl (SqL.of t), fun l' hl => q.lst l (fun _ hx => by simp [hx]) hl⟩
    · cases h'
  case sum =>
    have h' : sumT a = some z := h
    unfold sumT at h'
    split at h'
    · rename_i xs
      obtain ⟨ns, hn, hz⟩ := Option.map_eq_some_iff.mp h'
      subst hz
      rw [Rep.lst_iff] at r
      obtain ⟨p, vs, S', e, t, es, l⟩ := r
      subst e
      exact ⟨p, ns, rfl, by rw [← intsOf_rep l hn]; exact SqL.of t, q.int⟩
    · cases h'
  case any =>
    have h' : anyT a = some z := h
    unfold anyT at h'
    split at h'
    · rename_i xs
      obtain ⟨ns, hn, hz⟩ := Option.map_eq_some_iff.mp h'
      subst hz
      rw [Rep.lst_iff] at r
      obtain ⟨p, vs, S', e, t, es, l⟩ := r
      subst e
      exact ⟨p, ns, rfl, by rw [← blsOf_rep l hn]; exact SqL.of t, q.bl⟩
    · cases h'
  case all =>
    have h' : allT a = some z := h
    unfold allT at h'
    split at h'
    · rename_i xs
      obtain ⟨ns, hn, hz⟩ := Option.map_eq_some_iff.mp h'
      subst hz
      rw [Rep.lst_iff] at r
      obtain ⟨p, vs, S', e, t, es, l⟩ := r
      subst e
      exact ⟨p, ns, rfl, by rw [← blsOf_rep l hn]; exact SqL.of t, q.bl⟩
    · cases h'
  case abs =>
    cases a <;> simp only [o1, Option.some.injEq, reduceCtorEq] at h
    subst h
    rw [Rep.int_iff] at r
    obtain ⟨e, _⟩ := r
    subst e
    exact ⟨_, rfl, q.int⟩
  case int =>
    have h' : intT a = some z := h
    unfold intT at h'
    split at h'
    · cases h'
      rw [Rep.int_iff] at r
      obtain ⟨e, _⟩ := r
      subst e
      exact .inl ⟨_, rfl, q.int⟩
    · cases h'
      rw [Rep.bl_iff] at r
      obtain ⟨e, _⟩ := r
      subst e
      exact .inr ⟨_, rfl, q.int⟩
    · cases h'

/-! ### isinstance -/
def Ki.nm : Ki → String
  | .int => "int" | .bool => "bool" | .str => "str" | .tuple => "tuple" | .list => "list"
theorem isK_sound {k : Ki} {c : Bool} (h : a.isK k = some c) (r : Rep K ad H a v S) (q : OpP K ad H .plain (.bl c) S Q) : L2.rIsi K [v, .ty k.nm] H Q := by
  have kit : ∀ {x y : String} {c : Bool}, L2.kitB x y = some c → PySem.W.kitOne K (.type x) (.type y) = some c := fun h => L2.kit_ty h
  cases a <;> simp only [T.isK, Option.some.injEq, reduceCtorEq] at h <;> subst h
  case non =>
    rw [Rep.non_iff] at r; rw [r.1]
    refine ⟨_, _, _, _, _, rfl, .ty _, .base .non, ?_, q.bl⟩
    cases k <;> exact kit (by decide +kernel)
  case bl =>
    rw [Rep.bl_iff] at r; rw [r.1]
    refine ⟨_, _, _, _, _, rfl, .ty _, .base (.bl _), ?_, q.bl⟩
    cases k <;> exact kit (by decide +kernel)
  case int =>
    rw [Rep.int_iff] at r; rw [r.1]
    refine ⟨_, _, _, _, _, rfl, .ty _, .base (.int _), ?_, q.bl⟩
    cases k <;> exact kit (by decide +kernel)
  case str =>
    rw [Rep.str_iff] at r; rw [r.1]
    refine ⟨_, _, _, _, _, rfl, .ty _, .base (.str _), ?_, q.bl⟩
    cases k <;> exact kit (by decide +kernel)
  case tup =>
    rw [Rep.tup_iff] at r
    obtain ⟨p, vs, e, t, l⟩ := r
    subst e
    have ty : L2.TyX K H (.ref p) (.type "tuple") := by
      rcases t with (t | ⟨o, t⟩) | ⟨o, its, n, t, c, _⟩
      · exact .base (.tup t)
      · exact .fTuple t
      · exact .kTuple t c
    refine ⟨_, _, _, _, _, rfl, .ty _, ty, ?_, q.bl⟩
    cases k <;> exact kit (by decide +kernel)
  case lst =>
    rw [Rep.lst_iff] at r
    obtain ⟨p, vs, S', e, t, es, l⟩ := r
    subst e
    refine ⟨_, _, _, _, _, rfl, .ty _, .base (.lst t), ?_, q.bl⟩
    cases k <;> exact kit (by decide +kernel)
  case frz =>
    rw [Rep.frz_iff] at r
    obtain ⟨p, vs, e, t, l, es⟩ := r
    subst e
    have ty : L2.TyX K H (.ref p) (.type "list") := by
      rcases t with ⟨o, t⟩ | ⟨o, its, n, t, c, _⟩
      · exact .base (.frz t)
      · exact .kList t c
    refine ⟨_, _, _, _, _, rfl, .ty _, ty, ?_, q.bl⟩
    cases k <;> exact kit (by decide +kernel)

/-! ### slices -/
def rSl (K : PySem.W.Frag) : V → Option Int → Option Int → Hp → VK → Prop := fun x lo hi H Q => L2.rSlL K x lo hi H Q ∨ L2.rSlA K x lo hi H Q
theorem sl_ok {X : Cx} : L2.SlR X (rSl X.K) := L2.sl_list.or L2.sl_tupA
theorem sl_sound {lo hi : Option Int} (h : cutT lo hi a = some z) (r : Rep K ad H a v S) (q : OpP K ad H .fresh z S Q) : rSl K v lo hi H Q := by
  have e : ∀ n d o, sIx n d o = HT.sIx n d o := fun n d o => by cases o <;> rfl
  unfold cutT at h
  split at h
  · cases h
    have r' := r
    rw [Rep.tup_iff] at r
    obtain ⟨p, vs, ev, t, l⟩ := r
    subst ev
    obtain ⟨S', f, fl⟩ := cut_rep l lo hi
    refine .inr ⟨p, vs, rfl, t, fun w => ?_, fun _ p hp => q.tup f fl hp⟩
    rename_i xs
    have hl := l.length
    have ec : cut xs lo hi = xs := by
      unfold cut
      rw [hl, e, e, w.1, w.2, ← hl]; simp
    rw [ec] at q
    exact q.givenF r' fun _ h => h
  · cases h
    rw [Rep.lst_iff] at r
    obtain ⟨p, vs, S', ev, t, es, l⟩ := r
    subst ev es
    obtain ⟨S', f, fl⟩ := cut_rep l lo hi
    exact .inl ⟨p, vs, rfl, SqL.of t, fun p hp => q.lst f (fun x hx => by simp [fl x hx]) hp⟩
  · cases h
/-- range as a list -/
theorem rangeL_rep (lo hi : Int) : RepL K ad H (rangeL lo hi) (L2.rgV lo hi) [] := by
  have : L2.rgV lo hi = ((List.range (hi - lo).toNat).map fun (k : Nat) => lo + (k : Int)).map V.int := by unfold L2.rgV; rw [List.map_map]; rfl
  rw [this]
  have e : rangeL lo hi = ((List.range (hi - lo).toNat).map fun (k : Nat) => lo + (k : Int)).map T.int := by unfold rangeL; rw [List.map_map]; rfl
  rw [e]
  exact RepL.ints
end
end M
end

section
set_option Elab.async false
set_option autoImplicit false
set_option linter.all false
set_option maxRecDepth 100000
set_option maxHeartbeats 2000000
/-! SoundE: expressions, one construct after another. -/
namespace M
open PySem (Addr Str PyData Operator CmpOp UnaryOp Value Expr Stmt Scope NameKind)
open L2 (V Hp HO SqT SqL Rd upd upd_same upd_ne St VK XK WX TE TT TA R2 OpR UnR CallR Dp DpAll rI0 rI Cx Room TruV PE PT PW PA Inv Vis Loc Gl Takes)

/-- where a value's lists come from -/
def Org (τ : Sl) (H : Hp) (Ss : Nat → List Addr) (o : Bool) (S : List Addr) : Prop := ∀ a ∈ S, (Src τ Ss a ∨ H a = none) ∧ (o = true → Own τ Ss a ∨ H a = none)

section
variable {K : PySem.W.Frag} {ad : Nat → Addr} {H H1 H2 H' : Hp} {τ τ1 τ2 τ' : Sl} {σ : St} {Ss Ss1 Ss2 Ss' : Nat → List Addr}
theorem Org.before {σ' : St} {o : Bool} {S : List Addr} (p : Post K ad τ σ' H Ss τ1 H1 Ss1) (f : Org τ1 H1 Ss1 o S) : Org τ H Ss o S := fun a ha => by
  obtain ⟨h1, h2⟩ := f a ha
  exact ⟨h1.elim (p.src a) fun z => .inr (p.back z), fun h => (h2 h).elim (p.own a) fun z => .inr (p.back z)⟩
theorem Org.nil {o : Bool} : Org τ H Ss o [] := fun _ h => nomatch h
/-- a plain value -/
theorem Val.plain {t : T} {o : Bool} {v : V} (r : Rep K ad H t v []) : Val K ad τ H Ss t o v [] := ⟨r, by simp, fun _ => ⟨by simp, by simp⟩⟩
theorem Val.bl {b : Bool} {o : Bool} : Val K ad τ H Ss (.bl b) o (.bl b) [] := .plain (by rw [Rep]; exact ⟨rfl, rfl⟩)
theorem Val.int {b : Int} {o : Bool} : Val K ad τ H Ss (.int b) o (.int b) [] := .plain (by rw [Rep]; exact ⟨rfl, rfl⟩)
/-- only new objects -/
theorem Post.grow (R : Rel K ad τ σ H Ss) (g : Grow H H') : Post K ad τ σ H Ss τ H' Ss where
  rel := ⟨R.len, fun i => by
    have q := R.ok i
    cases e : rd τ i with
    | none => rw [e] at q; exact q
    | some x =>
      rw [e] at q
      obtain ⟨v, h1, h2, h3⟩ := q
      exact ⟨v, h1, h2.grow g, h3⟩, R.sep⟩
  keep := g.keep _
  there := fun a h => by
    cases e : H a with
    | none => exact (h e).elim
    | some o => rw [g a o e]; simp
  sup := fun i _ h => .inl ⟨i, h⟩
  own := fun _ h => .inl h
  shut := fun _ h => .inl h
  src := fun _ h => .inl h
  lk := fun i t h a ha => .inl ⟨t, h, ha⟩
end

/-- an outcome, and what is wanted of it -/
def Out (K : PySem.W.Frag) (ad : Nat → Addr) (xr : Nat → List T → Value → Option Addr → Hp → Prop) (W : WX) (τ : Sl) (σ : St) (H : Hp) (Ss : Nat → List Addr) (Q : VK) : Rv (T × Bool) → Prop
  | .ok x τ' => ∀ v H' Ss' S, Post K ad τ σ H Ss τ' H' Ss' → Val K ad τ' H' Ss' x.1 x.2 v S → Org τ H Ss x.2 S → Q v H'
  | .ex c fs τ' => ∀ cls d H' Ss', Post K ad τ σ H Ss τ' H' Ss' → xr c fs cls d H' → W cls d σ H'
  | .bad => False
/-- a reading of an expression -/
def eR (K : PySem.W.Frag) (ad : Nat → Addr) (xr : Nat → List T → Value → Option Addr → Hp → Prop) (W : WX) (f : Sl → Rv (T × Bool)) : TE := fun σ H Q =>
  ∃ τ Ss, Rel K ad τ σ H Ss ∧ Out K ad xr W τ σ H Ss Q (f τ)
/-- .. of a test -/
def tR (K : PySem.W.Frag) (ad : Nat → Addr) (xr : Nat → List T → Value → Option Addr → Hp → Prop) (W : WX) (f : Sl → Rv (T × Bool)) : TT := fun σ H Q =>
  ∃ τ Ss, Rel K ad τ σ H Ss ∧ match f τ with
    | .ok x τ' => ∃ k, x.1.tr = some k ∧ ∀ H' Ss', Post K ad τ σ H Ss τ' H' Ss' → Q k H'
    | .ex c fs τ' => ∀ cls d H' Ss', Post K ad τ σ H Ss τ' H' Ss' → xr c fs cls d H' → W cls d σ H'
    | .bad => False

section
variable {X : Cx} {e : Expr} {t t' : TE}
theorem PE.imp (h : PE X e t) (i : ∀ σ H Q, t' σ H Q → t σ H Q) : PE X e t' := ⟨fun pins s σ H Q I q => h.run pins s σ H Q I (i σ H Q q)⟩
theorem PT.imp {t t' : TT} (h : PT X e t) (i : ∀ σ H Q, t' σ H Q → t σ H Q) : PT X e t' := ⟨fun pins s σ H Q I q => h.run pins s σ H Q I (i σ H Q q)⟩
theorem PW.imp {t t' : TT} (h : PW X e t) (i : ∀ σ H Q, t' σ H Q → t σ H Q) : PW X e t' := ⟨fun wh pins s σ H Q I q => h.run wh pins s σ H Q I (i σ H Q q)⟩
theorem PA.imp {es : List Expr} {t t' : TA} (h : PA X es t) (i : ∀ σ H Q, t' σ H Q → t σ H Q) : PA X es t' := ⟨fun pos pins s σ H Q I q => h.run pos pins s σ H Q I (i σ H Q q)⟩
end

section
variable {K : PySem.W.Frag} {ad : Nat → Addr} {xr : Nat → List T → Value → Option Addr → Hp → Prop} {W : WX} {H H1 H2 H' : Hp} {τ τ1 τ2 τ' : Sl} {σ : St} {Ss Ss1 Ss2 Ss' : Nat → List Addr} {Q : VK}
/-- one expression, then the rest: p leads from where the whole began to where this one begins -/
theorem Out.step {f : Rv (T × Bool)} {g : T × Bool → Sl → Rv (T × Bool)} (p : Post K ad τ σ H Ss τ1 H1 Ss1) (h : Out K ad xr W τ σ H Ss Q (f.bind g)) {Q' : VK}
    (k : ∀ x τ2 v H2 Ss2 S, f = .ok x τ2 → Post K ad τ1 σ H1 Ss1 τ2 H2 Ss2 → Val K ad τ2 H2 Ss2 x.1 x.2 v S → Org τ1 H1 Ss1 x.2 S → Out K ad xr W τ σ H Ss Q (g x τ2) → Q' v H2) : Out K ad xr W τ1 σ H1 Ss1 Q' f := by
  cases f with
  | ok x τ2 => exact fun v H2 Ss2 S p' v' o' => k x τ2 v H2 Ss2 S rfl p' v' o' h
  | ex c fs τ' => exact fun cls d H' Ss' p' x' => h cls d H' Ss' (p.trans p') x'
  | bad => exact h
/-- the end: a value that is there -/
theorem Out.ok {x : T × Bool} {τ'} (h : Out K ad xr W τ σ H Ss Q (.ok x τ')) {v : V} {H' : Hp} {Ss'} {S} (p : Post K ad τ σ H Ss τ' H' Ss') (w : Val K ad τ' H' Ss' x.1 x.2 v S) (o : Org τ H Ss x.2 S) : Q v H' := h v H' Ss' S p w o

/-! ### arguments: a value, a lent slot -/
def AV (K : PySem.W.Frag) (ad : Nat → Addr) (τ : Sl) (σ : St) (H : Hp) (Ss : Nat → List Addr) (a : Ag) (v : V) (S : List Addr) : Prop := match a with
  | .v t o => Val K ad τ H Ss t o v S
  | .b i => σ[i]? = some (some v) ∧ S = []
def AO (τ : Sl) (H : Hp) (Ss : Nat → List Addr) (a : Ag) (S : List Addr) : Prop := match a with
  | .v _ o => Org τ H Ss o S
  | .b _ => S = []
def OutA (K : PySem.W.Frag) (ad : Nat → Addr) (xr : Nat → List T → Value → Option Addr → Hp → Prop) (W : WX) (τ : Sl) (σ : St) (H : Hp) (Ss : Nat → List Addr) (Q : VK) : Rv Ag → Prop
  | .ok a τ' => ∀ v H' Ss' S, Post K ad τ σ H Ss τ' H' Ss' → AV K ad τ' σ H' Ss' a v S → AO τ H Ss a S → Q v H'
  | .ex c fs τ' => ∀ cls d H' Ss', Post K ad τ σ H Ss τ' H' Ss' → xr c fs cls d H' → W cls d σ H'
  | .bad => False
def agR (K : PySem.W.Frag) (ad : Nat → Addr) (xr : Nat → List T → Value → Option Addr → Hp → Prop) (W : WX) (f : Sl → Rv Ag) : TE := fun σ H Q =>
  ∃ τ Ss, Rel K ad τ σ H Ss ∧ OutA K ad xr W τ σ H Ss Q (f τ)
theorem OutA.step {f : Rv Ag} {g : Ag → Sl → Rv (T × Bool)} (p : Post K ad τ σ H Ss τ1 H1 Ss1) (h : Out K ad xr W τ σ H Ss Q (f.bind g)) {Q' : VK}
    (k : ∀ x τ2 v H2 Ss2 S, f = .ok x τ2 → Post K ad τ1 σ H1 Ss1 τ2 H2 Ss2 → AV K ad τ2 σ H2 Ss2 x v S → AO τ1 H1 Ss1 x S → Out K ad xr W τ σ H Ss Q (g x τ2) → Q' v H2) : OutA K ad xr W τ1 σ H1 Ss1 Q' f := by
  cases f with
  | ok x τ2 => exact fun v H2 Ss2 S p' v' o' => k x τ2 v H2 Ss2 S rfl p' v' o' h
  | ex c fs τ' => exact fun cls d H' Ss' p' x' => h cls d H' Ss' (p.trans p') x'
  | bad => exact h
theorem AV.after {a : Ag} {v : V} {S : List Addr} (x : AV K ad τ σ H Ss a v S) (R : Rel K ad τ σ H Ss) (p : Post K ad τ σ H Ss τ1 H1 Ss1) : AV K ad τ1 σ H1 Ss1 a v S := by
  cases a with
  | v t o => exact Val.after x R p
  | b i => exact x
theorem AO.before {a : Ag} {S : List Addr} (p : Post K ad τ σ H Ss τ1 H1 Ss1) (f : AO τ1 H1 Ss1 a S) : AO τ H Ss a S := by
  cases a with
  | v t o => exact Org.before p f
  | b i => exact f
/-- an argument as it is where the operation is done; p leads from where the whole began -/
theorem AV.get {a : Ag} {v : V} {S : List Addr} {t : T} (x : AV K ad τ1 σ H1 Ss1 a v S) (o : AO τ H Ss a S) (p : Post K ad τ σ H Ss τ1 H1 Ss1) (h : a.get τ1 = some t) :
    ∃ S', Rep K ad H1 t v S' ∧ (a.isB = false → ∀ y ∈ S', ¬ Shut τ1 Ss1 y ∧ (Src τ Ss y ∨ H y = none)) := by
  cases a with
  | v u w =>
    cases h
    exact ⟨S, x.rep, fun _ y hy => ⟨x.free y hy, (o y hy).1⟩⟩
  | b i =>
    obtain ⟨e, _⟩ := x
    obtain ⟨⟨u, w⟩, h1, h2⟩ := Option.map_eq_some_iff.mp h
    cases h2
    obtain ⟨v', e', r, _⟩ := p.rel.get h1
    rw [e] at e'; cases e'
    exact ⟨Ss1 i, r, (fun z => by cases z)⟩
/-- the end of an operation: what its rule asks -/
theorem Out.fin {k : Rk} {lent : Bool} {z : Option T} {S0 : List Addr} (p : Post K ad τ σ H Ss τ1 H1 Ss1) (h : Out K ad xr W τ σ H Ss Q (fin k lent z τ1))
    (hs : lent = false → ∀ a ∈ S0, ¬ Shut τ1 Ss1 a ∧ (Src τ Ss a ∨ H a = none)) : ∃ u, z = some u ∧ OpP K ad H1 k u S0 Q := by
  unfold M.fin at h
  cases z with
  | none => exact h.elim
  | some u =>
    refine ⟨u, rfl, fun w H' S r g m own => ?_⟩
    have main : ∀ o : Bool, (o = true → k.own u = true) → (o = false → lent = false) → Out K ad xr W τ σ H Ss Q (.ok (u, o) τ1) → Q w H' := fun o h1 h2 hh => by
      refine hh w H' Ss1 S (p.trans (Post.grow p.rel g)) ⟨r, fun a ha => ?_, fun q => ?_⟩ fun a ha => ⟨?_, fun q => .inr (p.back ((own (h1 q)).2 a ha))⟩
      · rcases m a ha with q | q
        · cases o with
          | true => exact (p.rel.new ((own (h1 rfl)).2 a ha)).2
          | false => exact (hs (h2 rfl) a q).1
        · exact (p.rel.new q).2
      · obtain ⟨n1, n2⟩ := own (h1 q)
        exact ⟨n1, fun a ha => (p.rel.new (n2 a ha)).1⟩
      · rcases m a ha with q | q
        · cases o with
          | true => exact .inr (p.back ((own (h1 rfl)).2 a ha))
          | false => exact (hs (h2 rfl) a q).2
        · exact .inr (p.back q)
    cases lent with
    | true =>
      simp only [if_true] at h
      split at h
      · rename_i hk
        exact main true (fun _ => hk) (fun z => by cases z) h
      · exact h.elim
    | false =>
      simp only [Bool.false_eq_true, if_false] at h
      exact main (k.own u) id (fun _ => rfl) h
theorem Out.fin1 {o : O1} {a : Ag} {v : V} {S : List Addr} (p : Post K ad τ σ H Ss τ1 H1 Ss1) (x : AV K ad τ1 σ H1 Ss1 a v S) (ao : AO τ H Ss a S) (h : Out K ad xr W τ σ H Ss Q (fin1 o a τ1)) :
    ∃ t z S1, Rep K ad H1 t v S1 ∧ o1 o t = some z ∧ OpP K ad H1 o.rk z S1 Q := by
  unfold M.fin1 at h
  cases e : a.get τ1 with
  | none => rw [e] at h; exact h.elim
  | some t =>
    rw [e] at h
    obtain ⟨S1, r, n⟩ := x.get ao p e
    obtain ⟨z, hz, q⟩ := Out.fin p h n
    exact ⟨t, z, S1, r, hz, q⟩
theorem Out.fin2 {o : O2} {a b : Ag} {v w : V} {S S' : List Addr} (p : Post K ad τ σ H Ss τ1 H1 Ss1) (x : AV K ad τ1 σ H1 Ss1 a v S) (ao : AO τ H Ss a S) (y : AV K ad τ1 σ H1 Ss1 b w S') (bo : AO τ H Ss b S') (h : Out K ad xr W τ σ H Ss Q (fin2 o a b τ1)) :
    ∃ t u z S1 S2, Rep K ad H1 t v S1 ∧ Rep K ad H1 u w S2 ∧ o2 o t u = some z ∧ OpP K ad H1 o.rk z (S1 ++ S2) Q := by
  unfold M.fin2 at h
  cases e : a.get τ1 with
  | none => rw [e] at h; exact h.elim
  | some t =>
    cases e2 : b.get τ1 with
    | none => rw [e, e2] at h; exact h.elim
    | some u =>
      rw [e, e2] at h
      obtain ⟨S1, r1, n1⟩ := x.get ao p e
      obtain ⟨S2, r2, n2⟩ := y.get bo p e2
      obtain ⟨z, hz, q⟩ := Out.fin (S0 := S1 ++ S2) p h (fun l c hc => by
        rw [Bool.or_eq_false_iff] at l
        exact (List.mem_append.mp hc).elim (n1 l.1 c) (n2 l.2 c))
      exact ⟨t, u, z, S1, S2, r1, r2, hz, q⟩
theorem Out.fin3 {o : O3} {a b c : Ag} {v w y' : V} {S S' S'' : List Addr} (p : Post K ad τ σ H Ss τ1 H1 Ss1) (x : AV K ad τ1 σ H1 Ss1 a v S) (ao : AO τ H Ss a S) (y : AV K ad τ1 σ H1 Ss1 b w S') (bo : AO τ H Ss b S')
    (y2 : AV K ad τ1 σ H1 Ss1 c y' S'') (co : AO τ H Ss c S'') (h : Out K ad xr W τ σ H Ss Q (fin3 o a b c τ1)) :
    ∃ t u u' z S1 S2 S3, Rep K ad H1 t v S1 ∧ Rep K ad H1 u w S2 ∧ Rep K ad H1 u' y' S3 ∧ o3 o t u u' = some z ∧ OpP K ad H1 o.rk z (S1 ++ S2 ++ S3) Q := by
  unfold M.fin3 at h
  cases e : a.get τ1 with
  | none => rw [e] at h; exact h.elim
  | some t =>
    cases e2 : b.get τ1 with
    | none => rw [e, e2] at h; exact h.elim
    | some u =>
      cases e3 : c.get τ1 with
      | none => rw [e, e2, e3] at h; exact h.elim
      | some u' =>
        rw [e, e2, e3] at h
        obtain ⟨S1, r1, n1⟩ := x.get ao p e
        obtain ⟨S2, r2, n2⟩ := y.get bo p e2
        obtain ⟨S3, r3, n3⟩ := y2.get co p e3
        obtain ⟨z, hz, q⟩ := Out.fin (S0 := S1 ++ S2 ++ S3) p h (fun l d hd => by
          rw [Bool.or_eq_false_iff, Bool.or_eq_false_iff] at l
          rcases List.mem_append.mp hd with z | z
          · exact (List.mem_append.mp z).elim (n1 l.1.1 d) (n2 l.1.2 d)
          · exact n3 l.2 d z)
        exact ⟨t, u, u', z, S1, S2, S3, r1, r2, r3, hz, q⟩
end

/-! ### names and constants -/
section
variable {X : Cx} {ad : Nat → Addr} {xr : Nat → List T → Value → Option Addr → Hp → Prop} {W : WX} {x : Str} {pos : PySem.Pos} {G : Pg} {C : Nat → List T → CR}
theorem vis_pe {i : Nat} (hi : X.N[i]? = some x) (hv : Vis X.env.scope x) (h1 : (x == ("__debug__" : Str)) = false) (h2 : (x == ("__classdict__" : Str)) = false) : PE X (.Name x pos) (L2.tVar i) := L2.pe_var hi hv h1 h2
theorem s_var {i : Nat} (h : PE X (.Name x pos) (L2.tVar i)) : PE X (.Name x pos) (eR X.K ad xr W (ev G C (.var i))) := PE.imp h fun σ H Q ⟨τ, Ss, R, q⟩ => by
  rw [ev] at q
  split at q
  · rename_i t e
    obtain ⟨v, hv, r, _⟩ := R.get e
    have nx : ¬ exclAt τ i := fun ⟨u, w, hu, hw⟩ => by rw [e] at hu; cases hu; cases hw
    refine ⟨v, hv, q.ok (Post.refl R) ⟨r, R.notShut nx, fun l => ?_⟩ fun a ha => ⟨.inl ⟨i, t, .sh, e, .inl rfl, ha⟩, fun l => ?_⟩⟩
    · rw [r.lf l]; exact ⟨by simp, by simp⟩
    · rw [r.lf l] at ha; cases ha
  · exact q.elim
theorem s_mov {i : Nat} (h : PE X (.Name x pos) (L2.tVar i)) : PE X (.Name x pos) (eR X.K ad xr W (ev G C (.mov i))) := PE.imp h fun σ H Q ⟨τ, Ss, R, q⟩ => by
  rw [ev] at q
  split at q
  · rename_i t e
    obtain ⟨v, hv, r, nd⟩ := R.get e
    have hl : i < τ.length := by
      unfold rd at e
      cases z : τ[i]? with
      | none => rw [z] at e; cases e
      | some _ => exact (List.getElem?_eq_some_iff.mp z).1
    have rs : rd (τ.set i none) i = none := by unfold rd; rw [List.getElem?_set_self hl]; rfl
    have rn : ∀ j, j ≠ i → rd (τ.set i none) j = rd τ j := fun j hj => by unfold rd; rw [List.getElem?_set_ne (Ne.symm hj)]
    let Ss' : Nat → List Addr := fun j => if j = i then [] else Ss j
    have at_ : ∀ a j t w, rd (τ.set i none) j = some (t, w) → a ∈ Ss' j → j ≠ i ∧ rd τ j = some (t, w) ∧ a ∈ Ss j := fun a j u w hj ha => by
      by_cases ej : j = i
      · subst ej; rw [rs] at hj; cases hj
      · rw [rn j ej] at hj
        exact ⟨ej, hj, by simpa [Ss', ej] using ha⟩
    have p : Post X.K ad τ σ H Ss (τ.set i none) H Ss' := by
      refine ⟨⟨by rw [List.length_set]; exact R.len, fun j => ?_, fun j k hjk ⟨u, w, hu, hw⟩ a ha hk => ?_⟩, fun _ _ h _ => h, fun _ h => h, fun j a ha => ?_, fun a ⟨j, u, hu, ha⟩ => ?_, fun a ⟨j, ⟨u, w, hu, hw⟩, ha⟩ => ?_, fun a ⟨j, u, w, hu, hw, ha⟩ => ?_, fun j u hu a ha => ?_⟩
      · by_cases ej : j = i
        · subst ej; rw [rs]; simp [SlotOk, Ss']
        · rw [rn j ej]
          have := R.ok j
          simpa [Ss', ej] using this
      · obtain ⟨ej, h1, h2⟩ := at_ a j u w hu ha
        by_cases ek : k = i
        · subst ek; simp [Ss'] at hk
        · exact R.sep j k hjk ⟨u, w, h1, hw⟩ a h2 (by simpa [Ss', ek] using hk)
      · by_cases ej : j = i
        · subst ej; simp [Ss'] at ha
        · exact .inl ⟨j, by simpa [Ss', ej] using ha⟩
      · obtain ⟨_, h1, h2⟩ := at_ a j u _ hu ha
        exact .inl ⟨j, u, h1, h2⟩
      · obtain ⟨_, h1, h2⟩ := at_ a j u w hu ha
        exact .inl ⟨j, ⟨u, w, h1, hw⟩, h2⟩
      · obtain ⟨_, h1, h2⟩ := at_ a j u w hu ha
        exact .inl ⟨j, u, w, h1, hw, h2⟩
      · obtain ⟨_, h1, h2⟩ := at_ a j u _ hu ha
        exact .inl ⟨u, h1, h2⟩
    have ex : exclAt τ i := ⟨t, .ow, e, rfl⟩
    refine ⟨v, hv, q.ok p ⟨r, fun a ha ⟨j, ⟨u, w, hu, hw⟩, hja⟩ => ?_, fun _ => ⟨nd rfl, fun a ha j hj => ?_⟩⟩ fun a ha => ⟨.inl ⟨i, t, .ow, e, .inr rfl, ha⟩, fun _ => .inl ⟨i, t, e, ha⟩⟩⟩
    · obtain ⟨nj, h1, h2⟩ := at_ a j u w hu hja
      exact R.sep i j (Ne.symm nj) ex a ha h2
    · by_cases ej : j = i
      · subst ej; simp [Ss'] at hj
      · exact R.sep i j (Ne.symm ej) ex a ha (by simpa [Ss', ej] using hj)
  · exact q.elim
/-- a lent name as an argument -/
theorem s_brw {i : Nat} (h : PE X (.Name x pos) (L2.tVar i)) (r : Sl → Rv (T × Bool)) : PE X (.Name x pos) (agR X.K ad xr W fun s => ag (.brw i) (r s) s) := PE.imp h fun σ H Q ⟨τ, Ss, R, q⟩ => by
  replace q : OutA X.K ad xr W τ σ H Ss Q (ag (.brw i) (r τ) τ) := q
  have e : ag (.brw i) (r τ) τ = if (rd τ i).isSome then .ok (.b i) τ else .bad := rfl
  rw [e] at q
  cases z : rd τ i with
  | none => rw [z] at q; exact q.elim
  | some y =>
    rw [z] at q
    obtain ⟨v, hv, _, _⟩ := R.get z
    exact ⟨v, hv, (show ∀ v H' Ss' S, Post X.K ad τ σ H Ss τ H' Ss' → AV X.K ad τ σ H' Ss' (.b i) v S → AO τ H Ss (.b i) S → Q v H' from q) v H Ss [] (Post.refl R) ⟨hv, rfl⟩ rfl⟩
/-- a value as an argument -/
theorem s_ag {c : E} {e : Expr} (hc : c.asBrw = none) (h : PE X e (eR X.K ad xr W (ev G C c))) : PE X e (agR X.K ad xr W fun s => ag c (ev G C c s) s) := PE.imp h fun σ H Q ⟨τ, Ss, R, q⟩ => by
  refine ⟨τ, Ss, R, ?_⟩
  replace q : OutA X.K ad xr W τ σ H Ss Q (ag c (ev G C c τ) τ) := q
  have e : ag c (ev G C c τ) τ = (ev G C c τ).bind fun x s1 => .ok (.v x.1 x.2) s1 := by unfold ag; rw [hc]
  rw [e] at q
  cases z : ev G C c τ with
  | ok y τ1 =>
    rw [z] at q
    exact fun v H' Ss' S p w o => (show ∀ v H' Ss' S, Post X.K ad τ σ H Ss τ1 H' Ss' → AV X.K ad τ1 σ H' Ss' (.v y.1 y.2) v S → AO τ H Ss (.v y.1 y.2) S → Q v H' from q) v H' Ss' S p w o
  | ex c fs τ1 => rw [z] at q; exact q
  | bad => rw [z] at q; exact q
theorem s_con {t : T} {v : V} {e : Expr} (h : PE X e (L2.tC v)) (r : ∀ H, Rep X.K ad H t v []) : PE X e (eR X.K ad xr W (ev G C (.con t))) := PE.imp h fun σ H Q ⟨τ, Ss, R, q⟩ => by
  rw [ev] at q
  exact q.ok (Post.refl R) (.plain (r H)) Org.nil
theorem s_gl {k : Nat} {t : T} {v : V} {e : Expr} (hk : G.consts[k]? = some t) (h : PE X e (L2.tC v)) (r : ∀ H, Rep X.K ad H t v []) : PE X e (eR X.K ad xr W (ev G C (.gl k))) := PE.imp h fun σ H Q ⟨τ, Ss, R, q⟩ => by
  rw [ev, hk] at q
  exact q.ok (Post.refl R) (.plain (r H)) Org.nil

/-! ### operations -/
variable {a b c : Expr} {ca cb cc : E}
/-- an operation of one value by its rule -/
theorem s_op1 {o : O1} {e : Expr} {r : V → Hp → VK → Prop} {ta : TE} (h : ∀ ta : TE, PE X a ta → PE X e fun σ H Q => ta σ H fun x H1 => r x H1 Q) (ha : PE X a (agR X.K ad xr W fun s => ag ca (ev G C ca s) s))
    (sound : ∀ {H : Hp} {t z : T} {v : V} {S : List Addr} {Q : VK}, o1 o t = some z → Rep X.K ad H t v S → OpP X.K ad H o.rk z S Q → r v H Q) : PE X e (eR X.K ad xr W (ev G C (.op1 o ca))) := PE.imp (h _ ha) fun σ H Q ⟨τ, Ss, R, q⟩ => by
  rw [ev] at q
  refine ⟨τ, Ss, R, OutA.step (Post.refl R) q fun y τ1 v H1 Ss1 S _ p1 w1 o1' q1 => ?_⟩
  obtain ⟨t, z, S1, rp, hz, op⟩ := Out.fin1 p1 w1 o1' q1
  exact sound hz rp op
theorem s_op2 {o : O2} {e : Expr} {r : R2} (h : ∀ ta tb : TE, PE X a ta → PE X b tb → PE X e (L2.tOp r ta tb)) (ha : PE X a (agR X.K ad xr W fun s => ag ca (ev G C ca s) s)) (hb : PE X b (agR X.K ad xr W fun s => ag cb (ev G C cb s) s))
    (sound : ∀ {H : Hp} {t u z : T} {v w : V} {S S' : List Addr} {Q : VK}, o2 o t u = some z → Rep X.K ad H t v S → Rep X.K ad H u w S' → OpP X.K ad H o.rk z (S ++ S') Q → r v w H Q) : PE X e (eR X.K ad xr W (ev G C (.op2 o ca cb))) := PE.imp (h _ _ ha hb) fun σ H Q ⟨τ, Ss, R, q⟩ => by
  rw [ev] at q
  refine ⟨τ, Ss, R, OutA.step (Post.refl R) q fun x τ1 v H1 Ss1 S _ p1 w1 o1' q1 => ?_⟩
  refine ⟨τ1, Ss1, p1.rel, OutA.step p1 q1 fun y τ2 u H2 Ss2 S' _ p2 w2 o2' q2 => ?_⟩
  obtain ⟨t, u', z, S1, S2, r1, r2, hz, op⟩ := Out.fin2 (p1.trans p2) (w1.after p1.rel p2) o1' w2 (o2'.before p1) q2
  exact sound hz r1 r2 op
end
end M
end

section
set_option Elab.async false
set_option autoImplicit false
set_option linter.all false
set_option maxRecDepth 100000
set_option maxHeartbeats 2000000
/-! SoundF: and, or, if; tests; rows of values, displays. -/
namespace M
open PySem (Addr Str PyData Operator CmpOp UnaryOp Value Expr Stmt Scope NameKind)
open L2 (V Hp HO SqT SqL Rd upd upd_same upd_ne St VK XK WX TE TT TA R2 OpR UnR CallR Dp DpAll rI0 rI Cx Room TruV PE PT PW PA Inv Vis Loc Gl Takes)

section
variable {K : PySem.W.Frag} {ad : Nat → Addr} {xr : Nat → List T → Value → Option Addr → Hp → Prop} {W : WX} {H H1 H2 H' : Hp} {τ τ1 τ2 τ' : Sl} {σ : St} {Ss Ss1 Ss2 Ss' : Nat → List Addr} {Q : VK}
theorem Out.later {r : Rv (T × Bool)} (h : Out K ad xr W τ σ H Ss Q r) (p : Post K ad τ σ H Ss τ1 H1 Ss1) : Out K ad xr W τ1 σ H1 Ss1 Q r := by
  cases r with
  | ok x τ' => exact fun v H' Ss' S p' v' o' => h v H' Ss' S (p.trans p') v' (o'.before p)
  | ex c fs τ' => exact fun cls d H' Ss' p' x' => h cls d H' Ss' (p.trans p') x'
  | bad => exact h
/-- a test's outcome -/
def OutT (K : PySem.W.Frag) (ad : Nat → Addr) (xr : Nat → List T → Value → Option Addr → Hp → Prop) (W : WX) (τ : Sl) (σ : St) (H : Hp) (Ss : Nat → List Addr) (Q : Bool → Hp → Prop) : Rv (T × Bool) → Prop
  | .ok x τ' => ∃ k, x.1.tr = some k ∧ ∀ H' Ss', Post K ad τ σ H Ss τ' H' Ss' → Q k H'
  | .ex c fs τ' => ∀ cls d H' Ss', Post K ad τ σ H Ss τ' H' Ss' → xr c fs cls d H' → W cls d σ H'
  | .bad => False
theorem OutT.later {r : Rv (T × Bool)} {Q : Bool → Hp → Prop} (h : OutT K ad xr W τ σ H Ss Q r) (p : Post K ad τ σ H Ss τ1 H1 Ss1) : OutT K ad xr W τ1 σ H1 Ss1 Q r := by
  cases r with
  | ok x τ' => obtain ⟨k, e, h⟩ := h; exact ⟨k, e, fun H' Ss' p' => h H' Ss' (p.trans p')⟩
  | ex c fs τ' => exact fun cls d H' Ss' p' x' => h cls d H' Ss' (p.trans p') x'
  | bad => exact h
/-- a test of a value, then the rest -/
theorem OutT.step {f : Rv (T × Bool)} {α : Type} {g : T × Bool → Sl → Rv α} {P : Rv α → Prop} (p : Post K ad τ σ H Ss τ1 H1 Ss1) (h : P (f.bind g)) {Q' : Bool → Hp → Prop}
    (hx : ∀ c fs τ', P (.ex c fs τ') → ∀ cls d H' Ss', Post K ad τ σ H Ss τ' H' Ss' → xr c fs cls d H' → W cls d σ H') (hb : ¬ P .bad)
    (ht : ∀ x τ2, f = .ok x τ2 → P (g x τ2) → ∃ k, x.1.tr = some k ∧ ∀ H2 Ss2, Post K ad τ1 σ H1 Ss1 τ2 H2 Ss2 → Q' k H2) : OutT K ad xr W τ1 σ H1 Ss1 Q' f := by
  cases f with
  | ok x τ2 => exact ht x τ2 rfl h
  | ex c fs τ' => exact fun cls d H' Ss' p' x' => hx c fs τ' h cls d H' Ss' (p.trans p') x'
  | bad => exact hb h
end

section
variable {X : Cx} {ad : Nat → Addr} {xr : Nat → List T → Value → Option Addr → Hp → Prop} {W : WX} {x : Str} {pos : PySem.Pos} {G : Pg} {C : Nat → List T → CR}
variable {a b c : Expr} {ca cb cc : E} {rest : List Expr}
theorem s_one {op : PySem.BoolOp} (h : PE X a (eR X.K ad xr W (ev G C ca))) : PE X (.BoolOp op [a] pos) (eR X.K ad xr W (ev G C ca)) := L2.pe_one h
theorem s_and (ha : PE X a (eR X.K ad xr W (ev G C ca))) (hb : PE X (.BoolOp .And (b :: rest) pos) (eR X.K ad xr W (ev G C cb))) : PE X (.BoolOp .And (a :: b :: rest) pos) (eR X.K ad xr W (ev G C (.and ca cb))) :=
  PE.imp (L2.pe_andT ha hb) fun σ H Q ⟨τ, Ss, R, q⟩ => by
    rw [ev] at q
    refine ⟨τ, Ss, R, Out.step (Post.refl R) q fun y τ1 v H1 Ss1 S _ p1 w1 o1 q1 => ?_⟩
    split at q1
    · rename_i e
      refine ⟨true, tru_sound e w1.rep, ?_⟩
      rw [if_pos rfl]
      exact ⟨τ1, Ss1, p1.rel, q1.later p1⟩
    · rename_i e
      refine ⟨false, tru_sound e w1.rep, ?_⟩
      rw [if_neg (by simp)]
      exact q1.ok p1 w1 o1
    · exact q1.elim
theorem s_or (ha : PE X a (eR X.K ad xr W (ev G C ca))) (hb : PE X (.BoolOp .Or (b :: rest) pos) (eR X.K ad xr W (ev G C cb))) : PE X (.BoolOp .Or (a :: b :: rest) pos) (eR X.K ad xr W (ev G C (.or ca cb))) :=
  PE.imp (L2.pe_orT ha hb) fun σ H Q ⟨τ, Ss, R, q⟩ => by
    rw [ev] at q
    refine ⟨τ, Ss, R, Out.step (Post.refl R) q fun y τ1 v H1 Ss1 S _ p1 w1 o1 q1 => ?_⟩
    split at q1
    · rename_i e
      refine ⟨true, tru_sound e w1.rep, ?_⟩
      rw [if_pos rfl]
      exact q1.ok p1 w1 o1
    · rename_i e
      refine ⟨false, tru_sound e w1.rep, ?_⟩
      rw [if_neg (by simp)]
      exact ⟨τ1, Ss1, p1.rel, q1.later p1⟩
    · exact q1.elim

/-! ### tests -/
theorem t_val (ha : PE X a (eR X.K ad xr W (ev G C ca))) (he : ∀ whole, PySem.isTrue a X.env whole = (do let v ← whole; PySem.standAt a.pos; PySem.holding [v] (PySem.truthy v))) : PT X a (tR X.K ad xr W (ev G C ca)) :=
  PT.imp (L2.pt_truth ha he) fun σ H Q ⟨τ, Ss, R, q⟩ => by
    refine ⟨τ, Ss, R, ?_⟩
    cases e : ev G C ca τ with
    | ok y τ1 =>
      rw [e] at q
      obtain ⟨k, hk, q⟩ := q
      exact fun v H' Ss' S p w o => ⟨k, tru_sound hk w.rep, q H' Ss' p⟩
    | ex d fs τ1 => rw [e] at q; exact q
    | bad => rw [e] at q; exact q
theorem tw_one {op : PySem.BoolOp} (h : PT X a (tR X.K ad xr W (ev G C ca))) : PW X (.BoolOp op [a] pos) (tR X.K ad xr W (ev G C ca)) := by
  cases op with
  | And => exact L2.pw_and1 h
  | Or => exact L2.pw_or1 h
theorem tw_and (ha : PT X a (tR X.K ad xr W (ev G C ca))) (hb : PW X (.BoolOp .And (b :: rest) pos) (tR X.K ad xr W (ev G C cb))) : PW X (.BoolOp .And (a :: b :: rest) pos) (tR X.K ad xr W (ev G C (.and ca cb))) :=
  PW.imp (L2.pw_and ha hb) fun σ H Q ⟨τ, Ss, R, q⟩ => by
    rw [ev] at q
    refine ⟨τ, Ss, R, OutT.step (P := OutT X.K ad xr W τ σ H Ss Q) (Post.refl R) q (fun c fs τ' h => h) (fun h => h) fun y τ1 _ q1 => ?_⟩
    split at q1
    · rename_i e
      refine ⟨true, e, fun H1 Ss1 p1 => ?_⟩
      rw [if_pos rfl]
      exact ⟨τ1, Ss1, p1.rel, q1.later p1⟩
    · rename_i e
      refine ⟨false, e, fun H1 Ss1 p1 => ?_⟩
      rw [if_neg (by simp)]
      obtain ⟨k, hk, q2⟩ := q1
      rw [e] at hk; cases hk
      exact q2 H1 Ss1 p1
    · exact q1.elim
theorem tw_or (ha : PT X a (tR X.K ad xr W (ev G C ca))) (hb : PW X (.BoolOp .Or (b :: rest) pos) (tR X.K ad xr W (ev G C cb))) : PW X (.BoolOp .Or (a :: b :: rest) pos) (tR X.K ad xr W (ev G C (.or ca cb))) :=
  PW.imp (L2.pw_or ha hb) fun σ H Q ⟨τ, Ss, R, q⟩ => by
    rw [ev] at q
    refine ⟨τ, Ss, R, OutT.step (P := OutT X.K ad xr W τ σ H Ss Q) (Post.refl R) q (fun c fs τ' h => h) (fun h => h) fun y τ1 _ q1 => ?_⟩
    split at q1
    · rename_i e
      refine ⟨true, e, fun H1 Ss1 p1 => ?_⟩
      rw [if_pos rfl]
      obtain ⟨k, hk, q2⟩ := q1
      rw [e] at hk; cases hk
      exact q2 H1 Ss1 p1
    · rename_i e
      refine ⟨false, e, fun H1 Ss1 p1 => ?_⟩
      rw [if_neg (by simp)]
      exact ⟨τ1, Ss1, p1.rel, q1.later p1⟩
    · exact q1.elim
theorem t_not (hc : ca.asBrw = none) (ha : PT X a (tR X.K ad xr W (ev G C ca))) : PT X (.UnaryOp .Not a pos) (tR X.K ad xr W (ev G C (.op1 .notO ca))) :=
  PT.imp (L2.pt_not ha) fun σ H Q ⟨τ, Ss, R, q⟩ => by
    rw [ev] at q
    unfold ag at q
    rw [hc] at q
    refine ⟨τ, Ss, R, ?_⟩
    cases e : ev G C ca τ with
    | ok y τ1 =>
      rw [e] at q
      replace q : OutT X.K ad xr W τ σ H Ss Q (fin1 .notO (.v y.1 y.2) τ1) := q
      unfold fin1 Ag.get at q
      simp only [o1, notT] at q
      cases hk : y.1.tr with
      | none => rw [hk] at q; exact (show False from q).elim
      | some k =>
        rw [hk] at q
        refine ⟨k, hk, fun H' Ss' p => ?_⟩
        obtain ⟨k', hk', q⟩ := (show OutT X.K ad xr W τ σ H Ss Q (.ok (.bl (!k), true) τ1) from q)
        cases hk'
        exact q H' Ss' p
    | ex d fs τ1 => rw [e] at q; exact q
    | bad => rw [e] at q; exact q
/-- a comparison as a test: its answer is True or False -/
theorem t_cmp {e : Expr} {t : TE} {f : Sl → Rv (T × Bool)} (h : PT X e (L2.tTest t)) (i : ∀ σ H Q, eR X.K ad xr W f σ H Q → t σ H Q) (hb : ∀ s x s', f s = .ok x s' → ∃ k, x.1 = .bl k) : PT X e (tR X.K ad xr W f) :=
  PT.imp h fun σ H Q ⟨τ, Ss, R, q⟩ => by
    refine i σ H _ ⟨τ, Ss, R, ?_⟩
    cases e : f τ with
    | ok y τ1 =>
      rw [e] at q
      obtain ⟨k, hk, q⟩ := q
      obtain ⟨k', hk'⟩ := hb τ y τ1 e
      rw [hk'] at hk; cases hk
      refine fun v H' Ss' S p w o => ⟨k, ?_, q H' Ss' p⟩
      have := w.rep
      rw [hk', Rep.bl_iff] at this
      exact this.1
    | ex d fs τ1 => rw [e] at q; exact q
    | bad => rw [e] at q; exact q
theorem s_ite (hc : PT X c (tR X.K ad xr W (ev G C cc))) (ha : PE X a (eR X.K ad xr W (ev G C ca))) (hb : PE X b (eR X.K ad xr W (ev G C cb))) : PE X (.IfExp c a b pos) (eR X.K ad xr W (ev G C (.ite cc ca cb))) :=
  PE.imp (L2.pe_ifExp hc ha hb) fun σ H Q ⟨τ, Ss, R, q⟩ => by
    rw [ev] at q
    refine ⟨τ, Ss, R, OutT.step (P := Out X.K ad xr W τ σ H Ss Q) (Post.refl R) q (fun c fs τ' h => h) (fun h => h) fun y τ1 _ q1 => ?_⟩
    split at q1
    · rename_i e
      refine ⟨true, e, fun H1 Ss1 p1 => ?_⟩
      rw [if_pos rfl]
      exact ⟨τ1, Ss1, p1.rel, q1.later p1⟩
    · rename_i e
      refine ⟨false, e, fun H1 Ss1 p1 => ?_⟩
      rw [if_neg (by simp)]
      exact ⟨τ1, Ss1, p1.rel, q1.later p1⟩
    · exact q1.elim
/-- a < b < c -/
theorem i_chain {o p : O2} (ho : o.read = true) (hp : p.read = true) {σ H Q} (h : eR X.K ad xr W (ev G C (.chain o p ca cb cc)) σ H Q) :
    L2.tChain (r2 X.K o) (r2 X.K p) (eR X.K ad xr W (ev G C ca)) (eR X.K ad xr W (ev G C cb)) (eR X.K ad xr W (ev G C cc)) σ H Q := by
  obtain ⟨τ, Ss, R, q⟩ := h
  rw [ev] at q
  refine ⟨τ, Ss, R, Out.step (Post.refl R) q fun x τ1 v H1 Ss1 S1 _ p1 w1 o1 q1 => ?_⟩
  refine ⟨τ1, Ss1, p1.rel, Out.step p1 q1 fun y τ2 u H2 Ss2 S2 _ p2 w2 o2' q2 => ?_⟩
  have p12 := p1.trans p2
  have w1' := w1.after p1.rel p2
  have newp : ∀ {H3 : Hp}, Grow H2 H3 → Post X.K ad τ σ H Ss τ2 H3 Ss2 := fun g => p12.trans (Post.grow p12.rel g)
  split at q2
  · rename_i hz
    refine o2_sound ho hz w1'.rep w2.rep fun z H3 S r g m own => ?_
    rw [Rep.bl_iff] at r
    refine ⟨true, r.1, ?_⟩
    rw [if_pos rfl]
    have p3 := Post.grow (K := X.K) (ad := ad) (σ := σ) p12.rel g
    refine ⟨τ2, Ss2, p3.rel, Out.step (p12.trans p3) q2 fun z' τ3 u' H4 Ss4 S4 _ p4 w4 o4 q4 => ?_⟩
    obtain ⟨t, u2, z2, S1', S2', r1, r2', hz2, op⟩ := Out.fin2 (a := .v y.1 y.2) (b := .v z'.1 z'.2) ((p12.trans p3).trans p4) (show AV X.K ad τ3 σ H4 Ss4 (.v y.1 y.2) u S2 from (w2.after p12.rel p3).after p3.rel p4) (show AO τ H Ss (.v y.1 y.2) S2 from o2'.before p1) w4
      (show AO τ H Ss (.v z'.1 z'.2) S4 from o4.before (p12.trans p3)) q4
    exact o2_sound hp hz2 r1 r2' op
  · rename_i hz
    refine o2_sound ho hz w1'.rep w2.rep fun z H3 S r g m own => ?_
    rw [Rep.bl_iff] at r
    refine ⟨false, r.1, ?_⟩
    rw [if_neg (by simp)]
    exact q2.ok (newp g) .bl Org.nil
  · exact q2.elim

/-! ### rows of values -/
end
section
variable (K : PySem.W.Frag) (ad : Nat → Addr)
def ValL (τ : Sl) (H : Hp) (Ss : Nat → List Addr) : List (T × Bool) → List V → List (List Addr) → Prop
  | [], [], [] => True
  | x :: xs, v :: vs, S :: Sl => Val K ad τ H Ss x.1 x.2 v S ∧ ValL τ H Ss xs vs Sl
  | _, _, _ => False
end
def OrgL (τ : Sl) (H : Hp) (Ss : Nat → List Addr) : List (T × Bool) → List (List Addr) → Prop
  | x :: xs, S :: Sl => Org τ H Ss x.2 S ∧ OrgL τ H Ss xs Sl
  | _, _ => True
/-- those that are nobody else's are apart from the others -/
def Cross : List (T × Bool) → List (List Addr) → Prop
  | x :: xs, S :: Sl => (∀ p ∈ xs.zip Sl, (x.2 || p.1.2) = true → ∀ a ∈ S, a ∉ p.2) ∧ Cross xs Sl
  | _, _ => True
def OutL (K : PySem.W.Frag) (ad : Nat → Addr) (xr : Nat → List T → Value → Option Addr → Hp → Prop) (W : WX) (τ : Sl) (σ : St) (H : Hp) (Ss : Nat → List Addr) (Q : List V → Hp → Prop) : Rv (List (T × Bool)) → Prop
  | .ok xs τ' => ∀ vs H' Ss' Sl, Post K ad τ σ H Ss τ' H' Ss' → ValL K ad τ' H' Ss' xs vs Sl → OrgL τ H Ss xs Sl → Cross xs Sl → Q vs H'
  | .ex c fs τ' => ∀ cls d H' Ss', Post K ad τ σ H Ss τ' H' Ss' → xr c fs cls d H' → W cls d σ H'
  | .bad => False
def lR (K : PySem.W.Frag) (ad : Nat → Addr) (xr : Nat → List T → Value → Option Addr → Hp → Prop) (W : WX) (f : Sl → Rv (List (T × Bool))) : TA := fun σ H Q =>
  ∃ τ Ss, Rel K ad τ σ H Ss ∧ OutL K ad xr W τ σ H Ss Q (f τ)
section
variable {K : PySem.W.Frag} {ad : Nat → Addr} {xr : Nat → List T → Value → Option Addr → Hp → Prop} {W : WX} {H H1 H2 H' : Hp} {τ τ1 τ2 τ' : Sl} {σ : St} {Ss Ss1 Ss2 Ss' : Nat → List Addr}
theorem ValL.after : ∀ {σ' : St} {xs : List (T × Bool)} {vs : List V} {Sl : List (List Addr)}, ValL K ad τ H Ss xs vs Sl → Rel K ad τ σ' H Ss → Post K ad τ σ H Ss τ1 H1 Ss1 → ValL K ad τ1 H1 Ss1 xs vs Sl
  | _, [], [], [], _, _, _ => trivial
  | _, x :: xs, v :: vs, S :: Sl, h, R, p => ⟨h.1.after R p, ValL.after h.2 R p⟩
theorem OrgL.before : ∀ {xs : List (T × Bool)} {Sl : List (List Addr)}, OrgL τ1 H1 Ss1 xs Sl → Post K ad τ σ H Ss τ1 H1 Ss1 → OrgL τ H Ss xs Sl
  | [], [], _, _ => trivial
  | [], _ :: _, _, _ => trivial
  | _ :: _, [], _, _ => trivial
  | x :: xs, S :: Sl, h, p => ⟨h.1.before p, OrgL.before h.2 p⟩
theorem OrgL.mem : ∀ {xs : List (T × Bool)} {Sl : List (List Addr)}, OrgL τ H Ss xs Sl → ∀ p ∈ xs.zip Sl, Org τ H Ss p.1.2 p.2
  | [], _, _, p, hp => by simp at hp
  | _ :: _, [], _, p, hp => by simp at hp
  | x :: xs, S :: Sl, h, p, hp => by
    rw [List.zip_cons_cons] at hp
    rcases List.mem_cons.mp hp with e | e
    · subst e; exact h.1
    · exact OrgL.mem h.2 p e
theorem ValL.rep : ∀ {xs : List (T × Bool)} {vs : List V} {Sl : List (List Addr)}, ValL K ad τ H Ss xs vs Sl → RepL K ad H (xs.map (·.1)) vs Sl.flatten
  | [], [], [], _ => RepL.nil
  | x :: xs, v :: vs, S :: Sl, h => by
    rw [List.map_cons, List.flatten_cons]
    exact RepL.cons h.1.rep (ValL.rep h.2)
theorem ValL.length : ∀ {xs : List (T × Bool)} {vs : List V} {Sl : List (List Addr)}, ValL K ad τ H Ss xs vs Sl → xs.length = vs.length ∧ xs.length = Sl.length
  | [], [], [], _ => ⟨rfl, rfl⟩
  | x :: xs, v :: vs, S :: Sl, h => by
    obtain ⟨a, b⟩ := ValL.length h.2
    exact ⟨by simp [a], by simp [b]⟩
theorem ValL.free : ∀ {xs : List (T × Bool)} {vs : List V} {Sl : List (List Addr)}, ValL K ad τ H Ss xs vs Sl → ∀ a ∈ Sl.flatten, ¬ Shut τ Ss a
  | [], [], [], _, a, ha => by simp at ha
  | x :: xs, v :: vs, S :: Sl, h, a, ha => by
    rw [List.flatten_cons] at ha
    exact (List.mem_append.mp ha).elim (h.1.free a) (ValL.free h.2 a)
theorem OrgL.flat : ∀ {xs : List (T × Bool)} {Sl : List (List Addr)}, xs.length = Sl.length → OrgL τ H Ss xs Sl → Org τ H Ss (xs.all (·.2)) Sl.flatten
  | [], [], _, _ => Org.nil
  | x :: xs, S :: Sl, l, h => fun a ha => by
    rw [List.flatten_cons] at ha
    rcases List.mem_append.mp ha with z | z
    · obtain ⟨h1, h2⟩ := h.1 a z
      exact ⟨h1, fun q => h2 (by rw [List.all_cons, Bool.and_eq_true] at q; exact q.1)⟩
    · obtain ⟨h1, h2⟩ := OrgL.flat (by simpa using l) h.2 a z
      exact ⟨h1, fun q => h2 (by rw [List.all_cons, Bool.and_eq_true] at q; exact q.2)⟩
theorem ValL.mine : ∀ {xs : List (T × Bool)} {vs : List V} {Sl : List (List Addr)}, ValL K ad τ H Ss xs vs Sl → Cross xs Sl → xs.all (·.2) = true → Sl.flatten.Nodup ∧ ∀ a ∈ Sl.flatten, ∀ i, a ∉ Ss i
  | [], [], [], _, _, _ => ⟨by simp, by simp⟩
  | x :: xs, v :: vs, S :: Sl, h, c, l => by
    rw [List.all_cons, Bool.and_eq_true] at l
    obtain ⟨n1, d1⟩ := h.1.mine l.1
    obtain ⟨n2, d2⟩ := ValL.mine h.2 c.2 l.2
    rw [List.flatten_cons]
    have hl := (ValL.length h.2).2
    refine ⟨List.nodup_append.mpr ⟨n1, n2, fun a ha b hb e => ?_⟩, fun a ha => (List.mem_append.mp ha).elim (d1 a) (d2 a)⟩
    subst e
    obtain ⟨S', hS, hb⟩ := List.mem_flatten.mp hb
    obtain ⟨k, hk, e⟩ := List.getElem_of_mem hS
    have hkx : k < xs.length := by omega
    have hm : (xs[k], S') ∈ xs.zip Sl := by
      rw [← e]
      have : (xs.zip Sl)[k]'(by simp; omega) = (xs[k], Sl[k]) := by simp
      rw [← this]; exact List.getElem_mem _
    exact c.1 (xs[k], S') hm (by simp [l.1]) a ha hb
/-- the first value, then the others -/
theorem cross_cons {x : T × Bool} {v : V} {S : List Addr} (R : Rel K ad τ σ H Ss) (w : Val K ad τ H Ss x.1 x.2 v S) {xs : List (T × Bool)} {Sl : List (List Addr)} (o : OrgL τ H Ss xs Sl) (c : Cross xs Sl) : Cross (x :: xs) (S :: Sl) := by
  refine ⟨fun p hp h a ha hb => ?_, c⟩
  obtain ⟨h1, h2⟩ := o.mem p hp a hb
  obtain ⟨ys, e⟩ := w.rep.lists a ha
  rw [Bool.or_eq_true] at h
  rcases h with h | h
  · rcases h1 with z | z
    · obtain ⟨i, z⟩ := z.slot
      exact (w.mine h).2 a ha i z
    · rw [e] at z; cases z
  · rcases h2 h with z | z
    · exact w.free a ha z.shut
    · rw [e] at z; cases z
theorem OutL.step {f : Rv (T × Bool)} {g : T × Bool → Sl → Rv (List (T × Bool))} {Q : List V → Hp → Prop} (p : Post K ad τ σ H Ss τ1 H1 Ss1) (h : OutL K ad xr W τ σ H Ss Q (f.bind g)) {Q' : VK}
    (k : ∀ x τ2 v H2 Ss2 S, f = .ok x τ2 → Post K ad τ1 σ H1 Ss1 τ2 H2 Ss2 → Val K ad τ2 H2 Ss2 x.1 x.2 v S → Org τ1 H1 Ss1 x.2 S → OutL K ad xr W τ σ H Ss Q (g x τ2) → Q' v H2) : Out K ad xr W τ1 σ H1 Ss1 Q' f := by
  cases f with
  | ok x τ2 => exact fun v H2 Ss2 S p' v' o' => k x τ2 v H2 Ss2 S rfl p' v' o' h
  | ex c fs τ' => exact fun cls d H' Ss' p' x' => h cls d H' Ss' (p.trans p') x'
  | bad => exact h
end

/-- no star -/
def isStar : Expr → Bool
  | .Starred _ _ => true
  | _ => false
theorem star_cons {e : Expr} {es : List Expr} {env : PySem.Env} (h : isStar e = false) : PySem.starEach (e :: es) env = (false, PySem.eval e env) :: PySem.starEach es env := by
  cases e <;> first | rfl | cases h
theorem star_none : ∀ {es : List Expr} {env : PySem.Env} {pos : PySem.Pos}, (es.all fun e => !isStar e) = true → (PySem.backTo pos (PySem.starEach es env)).any (·.1) = false
  | [], _, _, _ => rfl
  | e :: es, env, pos, h => by
    rw [List.all_cons, Bool.and_eq_true, Bool.not_eq_true'] at h
    rw [star_cons h.1]
    exact star_none h.2

section
variable {X : Cx} {ad : Nat → Addr} {xr : Nat → List T → Value → Option Addr → Hp → Prop} {W : WX} {pos : PySem.Pos} {G : Pg} {C : Nat → List T → CR}
variable {e : Expr} {c : E} {es : List Expr} {cs : List E}
theorem a_nil : PA X [] (lR X.K ad xr W (evs G C [])) := PA.imp L2.pa_nil fun σ H Q ⟨τ, Ss, R, q⟩ => by
  rw [evs] at q
  exact q [] H Ss [] (Post.refl R) trivial trivial trivial
theorem a_cons (hs : isStar e = false) (h : PE X e (eR X.K ad xr W (ev G C c))) (r : PA X es (lR X.K ad xr W (evs G C cs))) : PA X (e :: es) (lR X.K ad xr W (evs G C (c :: cs))) :=
  PA.imp (L2.pa_cons h r (star_cons hs)) fun σ H Q ⟨τ, Ss, R, q⟩ => by
    rw [evs] at q
    refine ⟨τ, Ss, R, OutL.step (Post.refl R) q fun x τ1 v H1 Ss1 S _ p1 w1 o1 q1 => ?_⟩
    refine ⟨τ1, Ss1, p1.rel, ?_⟩
    cases z : evs G C cs τ1 with
    | ok xs τ2 =>
      rw [z] at q1
      intro vs H2 Ss2 Sl p2 w2 o2 c2
      exact (show ∀ vs H' Ss' Sl, Post X.K ad τ σ H Ss τ2 H' Ss' → ValL X.K ad τ2 H' Ss' (x :: xs) vs Sl → OrgL τ H Ss (x :: xs) Sl → Cross (x :: xs) Sl → Q vs H' from q1) (v :: vs) H2 Ss2 (S :: Sl) (p1.trans p2) ⟨w1.after p1.rel p2, w2⟩ ⟨o1, o2.before p1⟩ (cross_cons p1.rel w1 o2 c2)
    | ex d fs τ2 => rw [z] at q1; exact fun cls d' H' Ss' p' x' => (show ∀ cls d' H' Ss', Post X.K ad τ σ H Ss τ2 H' Ss' → xr d fs cls d' H' → W cls d' σ H' from q1) cls d' H' Ss' (p1.trans p') x'
    | bad => rw [z] at q1; exact q1
theorem s_tup {k : Nat} (h : PA X es (lR X.K ad xr W (evs G C cs))) : PE X (.Tuple es k pos) (eR X.K ad xr W (ev G C (.tup cs))) := PE.imp (L2.pe_tup h) fun σ H Q ⟨τ, Ss, R, q⟩ => by
  rw [ev] at q
  refine ⟨τ, Ss, R, ?_⟩
  cases z : evs G C cs τ with
  | ok xs τ1 =>
    rw [z] at q
    intro vs H1 Ss1 Sl p w o c
    replace q : Out X.K ad xr W τ σ H Ss Q (if xs.length ≤ LIM then .ok (.tup (xs.map (·.1)), xs.all (·.2)) τ1 else .bad) := q
    split at q
    · rename_i hl
      refine ⟨by rw [LIM_eq, ← w.length.1]; exact hl, fun t ht => ?_⟩
      have g := Grow.new (o := .tup vs) ht
      have p' := Post.grow (K := X.K) (ad := ad) (σ := σ) p.rel g
      have w' := w.after p.rel p'
      exact q.ok (p.trans p') ⟨by rw [Rep.tup_iff]; exact ⟨t, vs, rfl, .inl (.inl upd_same), w'.rep⟩, w'.free, w'.mine c⟩ (o.flat w.length.2)
    · exact q.elim
  | ex d fs τ1 => rw [z] at q; exact q
  | bad => rw [z] at q; exact q
theorem s_lst (h : PA X es (lR X.K ad xr W (evs G C cs))) : PE X (.List es pos) (eR X.K ad xr W (ev G C (.lst cs))) := PE.imp (L2.pe_lst h) fun σ H Q ⟨τ, Ss, R, q⟩ => by
  rw [ev] at q
  refine ⟨τ, Ss, R, ?_⟩
  cases z : evs G C cs τ with
  | ok xs τ1 =>
    rw [z] at q
    intro vs H1 Ss1 Sl p w o c
    replace q : Out X.K ad xr W τ σ H Ss Q (if xs.length ≤ LIM then .ok (.lst (xs.map (·.1)), xs.all (·.2)) τ1 else .bad) := q
    split at q
    · rename_i hl
      refine ⟨by rw [LIM_eq, ← w.length.1]; exact hl, fun t ht => ?_⟩
      have g := Grow.new (o := .lst vs) ht
      have p' := Post.grow (K := X.K) (ad := ad) (σ := σ) p.rel g
      have w' := w.after p.rel p'
      have nt := (p.rel.new ht).1
      have nf : t ∉ Sl.flatten := fun hi => by
        obtain ⟨ys, e'⟩ := w.rep.lists t hi
        rw [ht] at e'; cases e'
      refine q.ok (p.trans p') (S := t :: Sl.flatten) ⟨by rw [Rep.lst_iff]; exact ⟨t, vs, _, rfl, upd_same, rfl, w'.rep⟩, fun a ha => ?_, fun l => ?_⟩ fun a ha => ?_
      · rcases List.mem_cons.mp ha with e | e
        · subst e; exact (p.rel.new ht).2
        · exact w'.free a e
      · obtain ⟨m1, m2⟩ := w'.mine c l
        refine ⟨List.nodup_cons.mpr ⟨nf, m1⟩, fun a ha => ?_⟩
        rcases List.mem_cons.mp ha with e | e
        · subst e; exact nt
        · exact m2 a e
      · rcases List.mem_cons.mp ha with e | e
        · subst e; exact ⟨.inr (p.back ht), fun _ => .inr (p.back ht)⟩
        · exact o.flat w.length.2 a e
    · exact q.elim
  | ex d fs τ1 => rw [z] at q; exact q
  | bad => rw [z] at q; exact q
end
end M
end

section
set_option Elab.async false
set_option autoImplicit false
set_option linter.all false
set_option maxRecDepth 100000
set_option maxHeartbeats 2000000
/-! SoundG: calls of defs. -/
namespace M
open PySem (Addr Str PyData Operator CmpOp UnaryOp Value Expr Stmt Scope NameKind)
open L2 (V Hp HO SqT SqL Rd upd upd_same upd_ne St VK XK WX TE TT TA R2 OpR UnR CallR Dp DpAll rI0 rI Cx Room TruV PE PT PW PA Inv Vis Loc Gl Takes Sp FnOk Binds)

/-! ### rows of arguments -/
section
variable (K : PySem.W.Frag) (ad : Nat → Addr)
def ArgL (τ : Sl) (σ : St) (H : Hp) (Ss : Nat → List Addr) : List Ag → List V → List (List Addr) → Prop
  | [], [], [] => True
  | x :: xs, v :: vs, S :: Sl => AV K ad τ σ H Ss x v S ∧ ArgL τ σ H Ss xs vs Sl
  | _, _, _ => False
end
def AOL (τ : Sl) (H : Hp) (Ss : Nat → List Addr) : List Ag → List (List Addr) → Prop
  | x :: xs, S :: Sl => AO τ H Ss x S ∧ AOL τ H Ss xs Sl
  | _, _ => True
def OutS (K : PySem.W.Frag) (ad : Nat → Addr) (xr : Nat → List T → Value → Option Addr → Hp → Prop) (W : WX) (τ : Sl) (σ : St) (H : Hp) (Ss : Nat → List Addr) (Q : List V → Hp → Prop) : Rv (List Ag) → Prop
  | .ok xs τ' => ∀ vs H' Ss' Sl, Post K ad τ σ H Ss τ' H' Ss' → ArgL K ad τ' σ H' Ss' xs vs Sl → AOL τ H Ss xs Sl → Q vs H'
  | .ex c fs τ' => ∀ cls d H' Ss', Post K ad τ σ H Ss τ' H' Ss' → xr c fs cls d H' → W cls d σ H'
  | .bad => False
def asR (K : PySem.W.Frag) (ad : Nat → Addr) (xr : Nat → List T → Value → Option Addr → Hp → Prop) (W : WX) (f : Sl → Rv (List Ag)) : TA := fun σ H Q =>
  ∃ τ Ss, Rel K ad τ σ H Ss ∧ OutS K ad xr W τ σ H Ss Q (f τ)
section
variable {K : PySem.W.Frag} {ad : Nat → Addr} {xr : Nat → List T → Value → Option Addr → Hp → Prop} {W : WX} {H H1 H2 H' : Hp} {τ τ1 τ2 τ' : Sl} {σ : St} {Ss Ss1 Ss2 Ss' : Nat → List Addr}
theorem ArgL.after : ∀ {xs : List Ag} {vs : List V} {Sl : List (List Addr)}, ArgL K ad τ σ H Ss xs vs Sl → Rel K ad τ σ H Ss → Post K ad τ σ H Ss τ1 H1 Ss1 → ArgL K ad τ1 σ H1 Ss1 xs vs Sl
  | [], [], [], _, _, _ => trivial
  | x :: xs, v :: vs, S :: Sl, h, R, p => ⟨h.1.after R p, ArgL.after h.2 R p⟩
theorem AOL.before : ∀ {xs : List Ag} {Sl : List (List Addr)}, AOL τ1 H1 Ss1 xs Sl → Post K ad τ σ H Ss τ1 H1 Ss1 → AOL τ H Ss xs Sl
  | [], [], _, _ => trivial
  | [], _ :: _, _, _ => trivial
  | _ :: _, [], _, _ => trivial
  | x :: xs, S :: Sl, h, p => ⟨h.1.before p, AOL.before h.2 p⟩
end
section
variable {X : Cx} {ad : Nat → Addr} {xr : Nat → List T → Value → Option Addr → Hp → Prop} {W : WX} {pos : PySem.Pos} {G : Pg} {C : Nat → List T → CR}
variable {e : Expr} {c : E} {es : List Expr} {cs : List E}
theorem g_nil : PA X [] (asR X.K ad xr W (evas G C [])) := PA.imp L2.pa_nil fun σ H Q ⟨τ, Ss, R, q⟩ => by
  rw [evas] at q
  exact q [] H Ss [] (Post.refl R) trivial trivial
theorem g_cons (hs : isStar e = false) (h : PE X e (agR X.K ad xr W fun s => ag c (ev G C c s) s)) (r : PA X es (asR X.K ad xr W (evas G C cs))) : PA X (e :: es) (asR X.K ad xr W (evas G C (c :: cs))) :=
  PA.imp (L2.pa_cons h r (star_cons hs)) fun σ H Q ⟨τ, Ss, R, q⟩ => by
    rw [evas] at q
    refine ⟨τ, Ss, R, ?_⟩
    show OutA X.K ad xr W τ σ H Ss _ (ag c (ev G C c τ) τ)
    cases z0 : ag c (ev G C c τ) τ with
    | ok x τ1 =>
      rw [z0] at q
      intro v H1 Ss1 S p1 w1 o1
      refine ⟨τ1, Ss1, p1.rel, ?_⟩
      replace q : OutS X.K ad xr W τ σ H Ss Q ((evas G C cs τ1).bind fun as s2 => .ok (x :: as) s2) := q
      cases z : evas G C cs τ1 with
      | ok xs τ2 =>
        rw [z] at q
        intro vs H2 Ss2 Sl p2 w2 o2
        exact (show ∀ vs H' Ss' Sl, Post X.K ad τ σ H Ss τ2 H' Ss' → ArgL X.K ad τ2 σ H' Ss' (x :: xs) vs Sl → AOL τ H Ss (x :: xs) Sl → Q vs H' from q) (v :: vs) H2 Ss2 (S :: Sl) (p1.trans p2) ⟨w1.after p1.rel p2, w2⟩ ⟨o1, o2.before p1⟩
      | ex d fs τ2 => rw [z] at q; exact fun cls d' H' Ss' p' x' => (show ∀ cls d' H' Ss', Post X.K ad τ σ H Ss τ2 H' Ss' → xr d fs cls d' H' → W cls d' σ H' from q) cls d' H' Ss' (p1.trans p') x'
      | bad => rw [z] at q; exact q
    | ex d fs τ1 => rw [z0] at q; exact q
    | bad => rw [z0] at q; exact q
end

/-! ### the promise of a def -/
/-- the lists that are handed in to be changed -/
def IoOwn (md : List Md) (Sl : List (List Addr)) (a : Addr) : Prop := ∃ (i : Nat) (S : List Addr), md[i]? = some .io ∧ Sl[i]? = some S ∧ a ∈ S
structure ArgOk (K : PySem.W.Frag) (ad : Nat → Addr) (H : Hp) (md : List Md) (ts : List T) (vs : List V) (Sl : List (List Addr)) : Prop where
  lt : ts.length = md.length
  lv : vs.length = md.length
  ls : Sl.length = md.length
  rep : ∀ (i : Nat) t v S, ts[i]? = some t → vs[i]? = some v → Sl[i]? = some S → Rep K ad H t v S
  io : ∀ (i : Nat) S, md[i]? = some .io → Sl[i]? = some S → S.Nodup ∧ ∀ (j : Nat) S', j ≠ i → Sl[j]? = some S' → ∀ a ∈ S, a ∉ S'
/-- what the changed ones are afterwards -/
def IoRep (K : PySem.W.Frag) (ad : Nat → Addr) (H : Hp) : List Md → List V → List T → List (List Addr) → Prop
  | [], [], [], [] => True
  | .io :: ms, v :: vs, t :: ts, S :: Sl => Rep K ad H t v S ∧ S.Nodup ∧ (∀ S' ∈ Sl, ∀ a ∈ S, a ∉ S') ∧ IoRep K ad H ms vs ts Sl
  | .va :: ms, _ :: vs, ts, Sl => IoRep K ad H ms vs ts Sl
  | .ro :: ms, _ :: vs, ts, Sl => IoRep K ad H ms vs ts Sl
  | _, _, _, _ => False
structure CallP (K : PySem.W.Frag) (ad : Nat → Addr) (md : List Md) (H : Hp) (vs : List V) (Sl : List (List Addr)) (io : List T) (H' : Hp) (Sio : List (List Addr)) : Prop where
  keep : Keep (IoOwn md Sl) H H'
  there : ∀ a, H a ≠ none → H' a ≠ none
  io : IoRep K ad H' md vs io Sio
  org : ∀ S ∈ Sio, ∀ a ∈ S, IoOwn md Sl a ∨ H a = none
def spOf (K : PySem.W.Frag) (ad : Nat → Addr) (xr : Nat → List T → Value → Option Addr → Hp → Prop) (md : List Md) (C : List T → CR) : Sp := fun vs H Q E => ∃ ts Sl, ArgOk K ad H md ts vs Sl ∧ match C ts with
  | .ok t o io => ∀ v H' S Sio, CallP K ad md H vs Sl io H' Sio → Rep K ad H' t v S → (∀ S' ∈ Sio, ∀ a ∈ S', a ∉ S) → (o = true → S.Nodup ∧ ∀ a ∈ S, IoOwn md Sl a ∨ H a = none) → (∀ a ∈ S, (∃ (i : Nat) (S' : List Addr), md[i]? ≠ some .ro ∧ Sl[i]? = some S' ∧ a ∈ S') ∨ H a = none) → Q v H'
  | .ex c fs io => ∀ cls d H' Sio, CallP K ad md H vs Sl io H' Sio → xr c fs cls d H' → E cls d H'
  | .bad => False

/-! ### the caller's side -/
theorem rd_put {s : Sl} {i j : Nat} {t : T} {w : Ow} (h : i < s.length) : rd (put s i t w) j = if j = i then some (t, w) else rd s j := by
  unfold rd put
  by_cases e : j = i
  · subst e; rw [if_pos rfl, List.getElem?_set_self h]; rfl
  · rw [if_neg e, List.getElem?_set_ne (Ne.symm e)]
theorem rd_lt {s : Sl} {i : Nat} {x : T × Ow} (h : rd s i = some x) : i < s.length := by
  unfold rd at h
  cases z : s[i]? with
  | none => rw [z] at h; cases h
  | some _ => exact (List.getElem?_eq_some_iff.mp z).1
theorem putIo_length : ∀ (is : List Nat) (ts : List T) (s : Sl), (putIo s is ts).length = s.length
  | [], _, s => by cases ‹List T› <;> rfl
  | _ :: _, [], s => rfl
  | i :: is, t :: ts, s => by rw [putIo, putIo_length]; unfold put; rw [List.length_set]
theorem rd_putIo : ∀ (is : List Nat) (ts : List T) (s : Sl) (j : Nat), is.Nodup → is.length = ts.length → (∀ i ∈ is, i < s.length) → rd (putIo s is ts) j = match (is.zip ts).lookup j with
    | some t => some (t, .ow)
    | none => rd s j
  | [], [], s, j, _, _, _ => rfl
  | [], _ :: _, s, j, _, l, _ => by simp at l
  | _ :: _, [], s, j, _, l, _ => by simp at l
  | i :: is, t :: ts, s, j, n, l, h => by
    have n' := List.nodup_cons.mp n
    rw [putIo, rd_putIo is ts _ j n'.2 (by simpa using l) (fun k hk => by unfold put; rw [List.length_set]; exact h k (by simp [hk])), List.zip_cons_cons, List.lookup_cons]
    by_cases e : j = i
    · subst e
      have : (is.zip ts).lookup j = none := by
        rw [List.lookup_eq_none_iff]
        intro p hp
        have := (List.of_mem_zip hp).1
        simp only [bne_iff_ne, ne_eq, beq_iff_eq]
        rintro rfl
        exact n'.1 this
      rw [this]
      simp only [beq_self_eq_true]
      rw [rd_put (h j (by simp)), if_pos rfl]
    · have : (j == i) = false := by simpa using e
      rw [this]
      cases (is.zip ts).lookup j with
      | some _ => rfl
      | none => simp only []; rw [rd_put (h i (by simp)), if_neg e]
/-- the supports behind the call -/
def supIo (Ss : Nat → List Addr) (is : List Nat) (Sl : List (List Addr)) : Nat → List Addr := fun j => match (is.zip Sl).lookup j with
  | some S => S
  | none => Ss j
section
variable {K : PySem.W.Frag} {ad : Nat → Addr} {xr : Nat → List T → Value → Option Addr → Hp → Prop} {W : WX} {H H1 H2 H' : Hp} {τ τ1 τ2 τ' : Sl} {σ : St} {Ss Ss1 Ss2 Ss' : Nat → List Addr}
/-- the lists of an argument as it is handed in -/
def supA (Ss : Nat → List Addr) : List Ag → List (List Addr) → List (List Addr)
  | .v _ _ :: as, S :: Sl => S :: supA Ss as Sl
  | .b i :: as, _ :: Sl => Ss i :: supA Ss as Sl
  | _, _ => []
/-- what binding tells, place by place -/
def BindOk (K : PySem.W.Frag) (ad : Nat → Addr) (τ : Sl) (σ : St) (H : Hp) (Ss : Nat → List Addr) (md : List Md) (as : List Ag) (ts : List T) (vs : List V) (Sl : List (List Addr)) : Prop :=
    ts.length = md.length ∧ vs.length = md.length ∧ Sl.length = md.length ∧ as.length = md.length ∧
    (∀ (i : Nat) t v S, ts[i]? = some t → vs[i]? = some v → Sl[i]? = some S → Rep K ad H t v S ∧
      ((∃ u o, as[i]? = some (.v u o) ∧ md[i]? ≠ some .io ∧ ∀ a ∈ S, ¬ Shut τ Ss a) ∨ ∃ k w, as[i]? = some (.b k) ∧ rd τ k = some (t, w) ∧ S = Ss k ∧ σ[k]? = some (some v) ∧ ((md[i]? = some .io ∧ w = .ow) ∨ md[i]? = some .ro)))
theorem bindA_get : ∀ {md : List Md} {as : List Ag} {ts : List T} {vs : List V} {Sl : List (List Addr)}, Rel K ad τ σ H Ss → bindA τ md as = some ts → ArgL K ad τ σ H Ss as vs Sl →
    BindOk K ad τ σ H Ss md as ts vs (supA Ss as Sl)
  | [], [], ts, vs, Sl, R, h, a => by
    simp only [bindA, Option.some.injEq] at h
    subst h
    cases vs with
    | cons _ _ => simp [ArgL] at a
    | nil => cases Sl with
      | cons _ _ => simp [ArgL] at a
      | nil => exact ⟨rfl, rfl, rfl, rfl, fun i t v S h => by simp at h⟩
  | [], _ :: _, ts, vs, Sl, R, h, a => by simp [bindA] at h
  | m :: md, [], ts, vs, Sl, R, h, a => by cases m <;> simp [bindA] at h
  | m :: md, x :: as, ts, [], Sl, R, h, a => by simp [ArgL] at a
  | m :: md, x :: as, ts, v :: vs, [], R, h, a => by simp [ArgL] at a
  | m :: md, x :: as, ts, v :: vs, S :: Sl, R, h, a => by
    have step : ∀ t0 ts', bindA τ md as = some ts' → ts = t0 :: ts' → ∀ S0, supA Ss (x :: as) (S :: Sl) = S0 :: supA Ss as Sl →
        (Rep K ad H t0 v S0 ∧ ((∃ u o, x = .v u o ∧ m ≠ .io ∧ ∀ a ∈ S0, ¬ Shut τ Ss a) ∨ ∃ k w, x = .b k ∧ rd τ k = some (t0, w) ∧ S0 = Ss k ∧ σ[k]? = some (some v) ∧ ((m = .io ∧ w = .ow) ∨ m = .ro))) → BindOk K ad τ σ H Ss (m :: md) (x :: as) ts (v :: vs) (supA Ss (x :: as) (S :: Sl)) := by
      intro t0 ts' hb et S0 es h0
      obtain ⟨l1, l2, l3, l4, ih⟩ := bindA_get R hb a.2
      subst et
      rw [es]
      refine ⟨by simp [l1], by simp [l2], by simp [l3], by simp [l4], fun i t w S1 e1 e2 e3 => ?_⟩
      cases i with
      | zero =>
        simp only [List.getElem?_cons_zero, Option.some.injEq] at e1 e2 e3
        subst e1 e2 e3
        refine ⟨h0.1, h0.2.imp (fun ⟨u, o, q1, q2, q3⟩ => ⟨u, o, by simp [q1], by simpa using q2, q3⟩) fun ⟨k, w', q1, q2, q3, q4, q5⟩ => ⟨k, w', by simp [q1], q2, q3, q4, by simpa using q5⟩⟩
      | succ i =>
        simp only [List.getElem?_cons_succ] at e1 e2 e3 ⊢
        exact ih i t w S1 e1 e2 e3
    cases x with
    | v t0 o0 =>
      have w : Val K ad τ H Ss t0 o0 v S := a.1
      cases m with
      | va =>
        simp only [bindA] at h
        obtain ⟨ts', hb, et⟩ := Option.map_eq_some_iff.mp h
        exact step t0 ts' hb et.symm S rfl ⟨w.rep, .inl ⟨t0, o0, rfl, by simp, w.free⟩⟩
      | ro =>
        simp only [bindA] at h
        obtain ⟨ts', hb, et⟩ := Option.map_eq_some_iff.mp h
        exact step t0 ts' hb et.symm S rfl ⟨w.rep, .inl ⟨t0, o0, rfl, by simp, w.free⟩⟩
      | io => simp [bindA] at h
    | b k =>
      have w : σ[k]? = some (some v) ∧ S = [] := a.1
      cases m with
      | va => simp [bindA] at h
      | ro =>
        simp only [bindA] at h
        split at h
        · rename_i t0 w0 e
          obtain ⟨ts', hb, et⟩ := Option.map_eq_some_iff.mp h
          obtain ⟨v', e', r, _⟩ := R.get e
          rw [w.1] at e'; cases e'
          exact step t0 ts' hb et.symm (Ss k) rfl ⟨r, .inr ⟨k, w0, rfl, e, rfl, w.1, .inr rfl⟩⟩
        · cases h
      | io =>
        simp only [bindA] at h
        split at h
        · rename_i t0 e
          obtain ⟨ts', hb, et⟩ := Option.map_eq_some_iff.mp h
          obtain ⟨v', e', r, _⟩ := R.get e
          rw [w.1] at e'; cases e'
          exact step t0 ts' hb et.symm (Ss k) rfl ⟨r, .inr ⟨k, .ow, rfl, e, rfl, w.1, .inl ⟨rfl, rfl⟩⟩⟩
        · cases h
theorem ioOf_mem : ∀ {md : List Md} {as : List Ag} {i k : Nat}, md[i]? = some .io → as[i]? = some (.b k) → k ∈ ioOf md as
  | [], _, _, _, h, _ => by simp at h
  | _ :: _, [], _, _, _, h => by simp at h
  | m :: md, a :: as, 0, k, h1, h2 => by
    simp only [List.getElem?_cons_zero, Option.some.injEq] at h1 h2
    subst h1 h2
    simp [ioOf]
  | m :: md, a :: as, i + 1, k, h1, h2 => by
    simp only [List.getElem?_cons_succ] at h1 h2
    have := ioOf_mem h1 h2
    cases m <;> cases a <;> simp [ioOf, this]
theorem roOf_mem : ∀ {md : List Md} {as : List Ag} {i k : Nat}, md[i]? = some .ro → as[i]? = some (.b k) → k ∈ roOf md as
  | [], _, _, _, h, _ => by simp at h
  | _ :: _, [], _, _, _, h => by simp at h
  | m :: md, a :: as, 0, k, h1, h2 => by
    simp only [List.getElem?_cons_zero, Option.some.injEq] at h1 h2
    subst h1 h2
    simp [roOf]
  | m :: md, a :: as, i + 1, k, h1, h2 => by
    simp only [List.getElem?_cons_succ] at h1 h2
    have := roOf_mem h1 h2
    cases m <;> cases a <;> simp [roOf, this]
/-- two places that lend the same slot to be changed are one -/
theorem ioOf_inj : ∀ {md : List Md} {as : List Ag} {i j k : Nat}, (ioOf md as).Nodup → md[i]? = some .io → as[i]? = some (.b k) → md[j]? = some .io → as[j]? = some (.b k) → i = j
  | [], _, _, _, _, _, h, _, _, _ => by simp at h
  | _ :: _, [], _, _, _, _, _, h, _, _ => by simp at h
  | m :: md, a :: as, 0, 0, k, _, _, _, _, _ => rfl
  | m :: md, a :: as, 0, j + 1, k, n, h1, h2, h3, h4 => by
    simp only [List.getElem?_cons_zero, Option.some.injEq, List.getElem?_cons_succ] at h1 h2 h3 h4
    subst h1 h2
    rw [ioOf, List.nodup_cons] at n
    exact absurd (ioOf_mem h3 h4) n.1
  | m :: md, a :: as, i + 1, 0, k, n, h1, h2, h3, h4 => by
    simp only [List.getElem?_cons_zero, Option.some.injEq, List.getElem?_cons_succ] at h1 h2 h3 h4
    subst h3 h4
    rw [ioOf, List.nodup_cons] at n
    exact absurd (ioOf_mem h1 h2) n.1
  | m :: md, a :: as, i + 1, j + 1, k, n, h1, h2, h3, h4 => by
    simp only [List.getElem?_cons_succ] at h1 h2 h3 h4
    have n' : (ioOf md as).Nodup := by cases m <;> cases a <;> simp [ioOf] at n <;> first | exact n | exact n.2
    rw [ioOf_inj n' h1 h2 h3 h4]
theorem argOk {md : List Md} {as : List Ag} {ts : List T} {vs : List V} {Sl : List (List Addr)} (R : Rel K ad τ σ H Ss) (h : bindA τ md as = some ts) (a : ArgL K ad τ σ H Ss as vs Sl) (ap : apart (ioOf md as) (roOf md as) = true) :
    ArgOk K ad H md ts vs (supA Ss as Sl) := by
  obtain ⟨l1, l2, l3, l4, ih⟩ := bindA_get R h a
  unfold apart at ap
  rw [Bool.and_eq_true, decide_eq_true_eq, List.all_eq_true] at ap
  have pick : ∀ (i : Nat) S, (supA Ss as Sl)[i]? = some S → ∃ t v, ts[i]? = some t ∧ vs[i]? = some v := fun i S e => by
    have := (List.getElem?_eq_some_iff.mp e).1
    have h1 : i < ts.length := by omega
    have h2 : i < vs.length := by omega
    exact ⟨ts[i], vs[i], List.getElem?_eq_getElem h1, List.getElem?_eq_getElem h2⟩
  refine ⟨l1, l2, l3, fun i t v S e1 e2 e3 => (ih i t v S e1 e2 e3).1, fun i S hm hs => ?_⟩
  obtain ⟨t, v, e1, e2⟩ := pick i S hs
  rcases (ih i t v S e1 e2 hs).2 with ⟨u, o, q1, q2, q3⟩ | ⟨k, w, q1, q2, q3, q4, q5⟩
  · exact absurd hm q2
  · have hw : w = .ow := by
      rcases q5 with ⟨_, z⟩ | z
      · exact z
      · rw [hm] at z; cases z
    subst hw q3
    obtain ⟨v', _, r, nd⟩ := R.get q2
    refine ⟨nd rfl, fun j S' hj hs' b hb hb' => ?_⟩
    obtain ⟨t2, v2, f1, f2⟩ := pick j S' hs'
    rcases (ih j t2 v2 S' f1 f2 hs').2 with ⟨u, o, p1, p2, p3⟩ | ⟨k2, w2, p1, p2, p3, p4, p5⟩
    · exact p3 b hb' ⟨k, ⟨t, .ow, q2, rfl⟩, hb⟩
    · subst p3
      have ne : k ≠ k2 := by
        rintro rfl
        rcases p5 with ⟨z, _⟩ | z
        · exact hj (ioOf_inj ap.1 z p1 hm q1)
        · have := ap.2 k (ioOf_mem hm q1)
          simp only [Bool.not_eq_true', List.contains_eq_mem, decide_eq_false_iff_not] at this
          exact this (roOf_mem z p1)
      exact R.sep k k2 ne ⟨t, .ow, q2, rfl⟩ b hb hb'

theorem ioOwn {md : List Md} {as : List Ag} {ts : List T} {vs : List V} {Sl : List (List Addr)} (b : BindOk K ad τ σ H Ss md as ts vs Sl) {a : Addr} (h : IoOwn md Sl a) : ∃ k t, k ∈ ioOf md as ∧ rd τ k = some (t, .ow) ∧ a ∈ Ss k := by
  obtain ⟨i, S, hm, hs, ha⟩ := h
  obtain ⟨l1, l2, l3, l4, ih⟩ := b
  have hi := (List.getElem?_eq_some_iff.mp hs).1
  have h1 : i < ts.length := by omega
  have h2 : i < vs.length := by omega
  rcases (ih i ts[i] vs[i] S (List.getElem?_eq_getElem h1) (List.getElem?_eq_getElem h2) hs).2 with ⟨u, o, q1, q2, q3⟩ | ⟨k, w, q1, q2, q3, q4, q5⟩
  · exact absurd hm q2
  · have hw : w = .ow := by
      rcases q5 with ⟨_, z⟩ | z
      · exact z
      · rw [hm] at z; cases z
    subst hw q3
    exact ⟨k, _, ioOf_mem hm q1, q2, ha⟩
/-- what stands of the changed slots -/
def IoSlots (K : PySem.W.Frag) (ad : Nat → Addr) (σ : St) (H : Hp) (is : List Nat) (io : List T) (Sio : List (List Addr)) : Prop :=
  is.length = io.length ∧ is.length = Sio.length ∧ (∀ j t, (is.zip io).lookup j = some t → ∃ S v, (is.zip Sio).lookup j = some S ∧ S ∈ Sio ∧ j ∈ is ∧ σ[j]? = some (some v) ∧ Rep K ad H t v S ∧ S.Nodup) ∧
    (∀ j, (is.zip io).lookup j = none → (is.zip Sio).lookup j = none ∧ j ∉ is) ∧ (∀ i j S S', i ≠ j → (is.zip Sio).lookup i = some S → (is.zip Sio).lookup j = some S' → ∀ a ∈ S, a ∉ S')
theorem lookup_mem {α : Type} : ∀ {is : List Nat} {l : List α} {j : Nat} {x : α}, (is.zip l).lookup j = some x → x ∈ l
  | [], _, _, _, h => by simp at h
  | _ :: _, [], _, _, h => by simp at h
  | i :: is, y :: l, j, x, h => by
    rw [List.zip_cons_cons, List.lookup_cons] at h
    split at h
    · cases h; simp
    · have := lookup_mem h; simp [this]
theorem ioSlots : ∀ {md : List Md} {as : List Ag} {ts : List T} {vs : List V} {Sl : List (List Addr)} {io : List T} {Sio : List (List Addr)}, bindA τ md as = some ts → ArgL K ad τ σ H Ss as vs Sl → IoRep K ad H' md vs io Sio →
    IoSlots K ad σ H' (ioOf md as) io Sio
  | [], [], _, [], _, [], [], _, _, _ => ⟨rfl, rfl, fun j t h => by simp [ioOf] at h, fun j _ => by simp [ioOf], fun i j S S' _ h => by simp [ioOf] at h⟩
  | [], [], _, [], _, _ :: _, _, _, _, h => by simp [IoRep] at h
  | [], [], _, [], _, [], _ :: _, _, _, h => by simp [IoRep] at h
  | [], [], _, _ :: _, [], _, _, _, a, _ => by simp [ArgL] at a
  | [], [], _, _ :: _, _ :: _, _, _, _, a, _ => by simp [ArgL] at a
  | [], _ :: _, _, _, _, _, _, h, _, _ => by simp [bindA] at h
  | m :: _, [], _, _, _, _, _, h, _, _ => by cases m <;> simp [bindA] at h
  | m :: md, x :: as, _, [], _, _, _, _, a, _ => by simp [ArgL] at a
  | m :: md, x :: as, _, v :: vs, [], _, _, _, a, _ => by simp [ArgL] at a
  | m :: md, x :: as, ts, v :: vs, S :: Sl, io, Sio, h, a, r => by
    have other : ∀ ts', bindA τ md as = some ts' → ioOf (m :: md) (x :: as) = ioOf md as → IoRep K ad H' md vs io Sio → IoSlots K ad σ H' (ioOf (m :: md) (x :: as)) io Sio := fun ts' hb e hr => by
      rw [e]; exact ioSlots hb a.2 hr
    cases m with
    | va =>
      cases x with
      | v t o =>
        simp only [bindA] at h
        obtain ⟨ts', hb, et⟩ := Option.map_eq_some_iff.mp h
        exact other ts' hb rfl r
      | b k => simp [bindA] at h
    | ro =>
      cases x with
      | v t o =>
        simp only [bindA] at h
        obtain ⟨ts', hb, et⟩ := Option.map_eq_some_iff.mp h
        exact other ts' hb rfl r
      | b k =>
        simp only [bindA] at h
        split at h
        · obtain ⟨ts', hb, et⟩ := Option.map_eq_some_iff.mp h
          exact other ts' hb rfl r
        · cases h
    | io =>
      cases x with
      | v t o => simp [bindA] at h
      | b k =>
        simp only [bindA] at h
        split at h
        · obtain ⟨ts', hb, et⟩ := Option.map_eq_some_iff.mp h
          cases io with
          | nil => simp [IoRep] at r
          | cons t0 io => cases Sio with
            | nil => simp [IoRep] at r
            | cons S0 Sio =>
              obtain ⟨r1, r2, r3, r4⟩ := r
              obtain ⟨i1, i2, i3, i4, i5⟩ := ioSlots hb a.2 r4
              have hv : σ[k]? = some (some v) := a.1.1
              have ei : ioOf (.io :: md) (.b k :: as) = k :: ioOf md as := rfl
              rw [ei]
              refine ⟨by simp [i1], by simp [i2], fun j t hj => ?_, fun j hj => ?_, fun i j S1 S2 hij h1 h2 => ?_⟩
              · rw [List.zip_cons_cons, List.lookup_cons] at hj ⊢
                split at hj
                · rename_i e
                  rw [beq_iff_eq] at e
                  subst e
                  cases hj
                  exact ⟨S0, v, rfl, by simp, by simp, hv, r1, r2⟩
                · obtain ⟨S1, v1, q1, q2, q3, q4, q5, q6⟩ := i3 j t hj
                  exact ⟨S1, v1, q1, by simp [q2], by simp [q3], q4, q5, q6⟩
              · rw [List.zip_cons_cons, List.lookup_cons] at hj ⊢
                split at hj
                · cases hj
                · rename_i e
                  obtain ⟨q1, q2⟩ := i4 j hj
                  exact ⟨q1, by
                    rw [List.mem_cons, not_or]
                    exact ⟨by simpa using e, q2⟩⟩
              · rw [List.zip_cons_cons, List.lookup_cons] at h1 h2
                split at h1
                · rename_i e1
                  rw [beq_iff_eq] at e1
                  split at h2
                  · rename_i e2
                    rw [beq_iff_eq] at e2
                    exact absurd (e1.trans e2.symm) hij
                  · cases h1
                    exact r3 S2 (lookup_mem h2)
                · split at h2
                  · cases h2
                    exact fun b hb hb' => r3 S1 (lookup_mem h1) b hb' hb
                  · exact i5 i j S1 S2 hij h1 h2
        · cases h
/-- the caller's slots behind the call -/
theorem io_post {md : List Md} {as : List Ag} {ts : List T} {vs : List V} {Sl : List (List Addr)} {io : List T} {Sio : List (List Addr)} (R : Rel K ad τ σ H Ss) (hb : bindA τ md as = some ts) (a : ArgL K ad τ σ H Ss as vs Sl)
    (ap : apart (ioOf md as) (roOf md as) = true) (c : CallP K ad md H vs (supA Ss as Sl) io H' Sio) : Post K ad τ σ H Ss (putIo τ (ioOf md as) io) H' (supIo Ss (ioOf md as) Sio) := by
  have B := bindA_get R hb a
  obtain ⟨n1, n2, look, none_, dis⟩ := ioSlots hb a c.io
  unfold apart at ap
  rw [Bool.and_eq_true, decide_eq_true_eq] at ap
  have own : ∀ {a}, IoOwn md (supA Ss as Sl) a → Own τ Ss a := fun h => let ⟨k, t, _, h1, h2⟩ := ioOwn B h; ⟨k, t, h1, h2⟩
  have notIo : ∀ {j a}, j ∉ ioOf md as → a ∈ Ss j → ¬ IoOwn md (supA Ss as Sl) a := fun {j a} hj ha h => by
    obtain ⟨k, t, hk, h1, h2⟩ := ioOwn B h
    exact R.sep k j (fun e => hj (e ▸ hk)) ⟨t, .ow, h1, rfl⟩ a h2 ha
  have ll : Lists (IoOwn md (supA Ss as Sl)) H := fun a h => R.lists a (own h)
  have lt : ∀ i ∈ ioOf md as, i < τ.length := fun i hi => by
    cases z : ((ioOf md as).zip io).lookup i with
    | none => exact absurd hi (none_ i z).2
    | some t =>
      obtain ⟨S, v, _, _, _, hv, _⟩ := look i t z
      have := (List.getElem?_eq_some_iff.mp hv).1
      rw [R.len]; exact this
  have rdE : ∀ j, rd (putIo τ (ioOf md as) io) j = match ((ioOf md as).zip io).lookup j with | some t => some (t, .ow) | none => rd τ j := fun j => rd_putIo _ _ _ j ap.1 n1 lt
  -- a slot: one of the changed, or as it was
  have slot : ∀ j, (∃ t S v, rd (putIo τ (ioOf md as) io) j = some (t, .ow) ∧ supIo Ss (ioOf md as) Sio j = S ∧ S ∈ Sio ∧ ((ioOf md as).zip Sio).lookup j = some S ∧ σ[j]? = some (some v) ∧ Rep K ad H' t v S ∧ S.Nodup) ∨
      (j ∉ ioOf md as ∧ rd (putIo τ (ioOf md as) io) j = rd τ j ∧ supIo Ss (ioOf md as) Sio j = Ss j) := fun j => by
    have e := rdE j
    cases z : ((ioOf md as).zip io).lookup j with
    | some t =>
      rw [z] at e
      obtain ⟨S, v, h1, h2, h3, h4, h5, h6⟩ := look j t z
      exact .inl ⟨t, S, v, e, by unfold supIo; rw [h1], h2, h1, h4, h5, h6⟩
    | none =>
      rw [z] at e
      obtain ⟨h1, h2⟩ := none_ j z
      exact .inr ⟨h2, e, by unfold supIo; rw [h1]⟩
  have newS : ∀ S ∈ Sio, ∀ a ∈ S, Own τ Ss a ∨ H a = none := fun S hS a ha => (c.org S hS a ha).imp own id
  have apartS : ∀ S ∈ Sio, ∀ {j a}, j ∉ ioOf md as → a ∈ S → a ∈ Ss j → False := fun S hS {j a} hj ha hja => by
    rcases c.org S hS a ha with z | z
    · exact notIo hj hja z
    · obtain ⟨xs, e⟩ := R.there hja
      rw [z] at e; cases e
  refine ⟨⟨by rw [putIo_length]; exact R.len, fun j => ?_, fun i j hij hx b hbi hbj => ?_⟩, fun b o h n => c.keep b o h fun q => n (own q), c.there, fun j b hb' => ?_, fun b ⟨j, t, hj, hbj⟩ => ?_, fun b ⟨j, ⟨t, w, hj, hw⟩, hbj⟩ => ?_, fun b ⟨j, t, w, hj, hw, hbj⟩ => ?_, fun j t hj b hbj => ?_⟩
  · rcases slot j with ⟨t, S, v, h1, h2, _, _, h4, h5, h6⟩ | ⟨h1, h2, h3⟩
    · rw [h1, h2, h4]; exact ⟨v, rfl, h5, fun _ => h6⟩
    · rw [h2, h3]
      have ok := R.ok j
      cases e : rd τ j with
      | none => rw [e] at ok; exact ok
      | some x =>
        rw [e] at ok
        obtain ⟨v, q1, q2, q3⟩ := ok
        exact ⟨v, q1, q2.keep c.keep ll fun b hb' => notIo h1 hb', q3⟩
  · rcases slot i with ⟨t, S, v, h1, h2, h3, h3', h4, h5, h6⟩ | ⟨h1, h2, h3⟩
    · rw [h2] at hbi
      rcases slot j with ⟨t', S', v', g1, g2, g3, g3', _⟩ | ⟨g1, g2, g3⟩
      · rw [g2] at hbj
        exact dis i j S S' hij h3' g3' b hbi hbj
      · rw [g3] at hbj
        exact apartS S h3 g1 hbi hbj
    · rw [h3] at hbi
      rcases slot j with ⟨t', S', v', g1, g2, g3, g3', _⟩ | ⟨g1, g2, g3⟩
      · rw [g2] at hbj
        exact apartS S' g3 h1 hbj hbi
      · rw [g3] at hbj
        obtain ⟨u, w, hu, hw⟩ := hx
        rw [h2] at hu
        exact R.sep i j hij ⟨u, w, hu, hw⟩ b hbi hbj
  · rcases slot j with ⟨t, S, v, h1, h2, h3, _⟩ | ⟨h1, h2, h3⟩
    · rw [h2] at hb'; exact (newS S h3 b hb').imp Own.slot id
    · rw [h3] at hb'; exact .inl ⟨j, hb'⟩
  · rcases slot j with ⟨t', S, v, h1, h2, h3, _⟩ | ⟨h1, h2, h3⟩
    · rw [h2] at hbj; exact newS S h3 b hbj
    · rw [h3] at hbj; rw [h2] at hj; exact .inl ⟨j, t, hj, hbj⟩
  · rcases slot j with ⟨t', S, v, h1, h2, h3, _⟩ | ⟨h1, h2, h3⟩
    · rw [h2] at hbj; exact (newS S h3 b hbj).imp Own.shut id
    · rw [h3] at hbj; rw [h2] at hj; exact .inl ⟨j, ⟨t, w, hj, hw⟩, hbj⟩
  · rcases slot j with ⟨t', S, v, h1, h2, h3, _⟩ | ⟨h1, h2, h3⟩
    · rw [h2] at hbj; exact (newS S h3 b hbj).imp Own.src id
    · rw [h3] at hbj; rw [h2] at hj; exact .inl ⟨j, t, w, hj, hw, hbj⟩
  · rcases slot j with ⟨t', S, v, h1, h2, h3, _⟩ | ⟨h1, h2, h3⟩
    · rw [h1] at hj; cases hj
    · rw [h3] at hbj; rw [h2] at hj; exact .inl ⟨t, hj, hbj⟩
theorem AOL.get : ∀ {as : List Ag} {Sl : List (List Addr)}, AOL τ H Ss as Sl → ∀ (i : Nat) u o S, as[i]? = some (.v u o) → (supA Ss1 as Sl)[i]? = some S → Org τ H Ss o S
  | [], _, _, i, _, _, _, h, _ => by simp at h
  | x :: as, [], _, i, _, _, _, _, h => by cases x <;> simp [supA] at h
  | x :: as, S0 :: Sl, a, 0, u, o, S, h1, h2 => by
    simp only [List.getElem?_cons_zero, Option.some.injEq] at h1
    subst h1
    simp only [supA, List.getElem?_cons_zero, Option.some.injEq] at h2
    subst h2
    exact a.1
  | x :: as, S0 :: Sl, a, i + 1, u, o, S, h1, h2 => by
    simp only [List.getElem?_cons_succ] at h1
    exact AOL.get a.2 i u o S h1 (by cases x <;> simpa [supA] using h2)
/-- the result of the call -/
theorem io_val {τ0 : Sl} {H0 : Hp} {Ss0 : Nat → List Addr} {md : List Md} {as : List Ag} {ts : List T} {vs : List V} {Sl : List (List Addr)} {io : List T} {Sio : List (List Addr)} {t : T} {o : Bool} {v : V} {S : List Addr} (p : Post K ad τ0 σ H0 Ss0 τ H Ss) (hb : bindA τ md as = some ts) (a : ArgL K ad τ σ H Ss as vs Sl)
    (ao : AOL τ0 H0 Ss0 as Sl) (ap : apart (ioOf md as) (roOf md as) = true) (c : CallP K ad md H vs (supA Ss as Sl) io H' Sio) (r : Rep K ad H' t v S) (d : ∀ S' ∈ Sio, ∀ a ∈ S', a ∉ S)
    (own : o = true → S.Nodup ∧ ∀ a ∈ S, IoOwn md (supA Ss as Sl) a ∨ H a = none) (org : ∀ a ∈ S, (∃ (i : Nat) (S' : List Addr), md[i]? ≠ some .ro ∧ (supA Ss as Sl)[i]? = some S' ∧ a ∈ S') ∨ H a = none) :
    Val K ad (putIo τ (ioOf md as) io) H' (supIo Ss (ioOf md as) Sio) t o v S ∧ Org τ0 H0 Ss0 o S := by
  have R := p.rel
  have B := bindA_get R hb a
  obtain ⟨n1, n2, look, none_, dis⟩ := ioSlots hb a c.io
  have lt : ∀ i ∈ ioOf md as, i < τ.length := fun i hi => by
    cases z : ((ioOf md as).zip io).lookup i with
    | none => exact absurd hi (none_ i z).2
    | some t =>
      obtain ⟨S, v, _, _, _, hv, _⟩ := look i t z
      rw [R.len]; exact (List.getElem?_eq_some_iff.mp hv).1
  have ap' := ap
  unfold apart at ap'
  rw [Bool.and_eq_true, decide_eq_true_eq] at ap'
  have slot : ∀ j, (∃ S', S' ∈ Sio ∧ supIo Ss (ioOf md as) Sio j = S') ∨ (j ∉ ioOf md as ∧ rd (putIo τ (ioOf md as) io) j = rd τ j ∧ supIo Ss (ioOf md as) Sio j = Ss j) := fun j => by
    have e := rd_putIo (ioOf md as) io τ j ap'.1 n1 lt
    cases z : ((ioOf md as).zip io).lookup j with
    | some t =>
      obtain ⟨S, v, h1, h2, _⟩ := look j t z
      exact .inl ⟨S, h2, by unfold supIo; rw [h1]⟩
    | none =>
      rw [z] at e
      obtain ⟨h1, h2⟩ := none_ j z
      exact .inr ⟨h2, e, by unfold supIo; rw [h1]⟩
  -- where the result's lists come from
  have from_ : ∀ a ∈ S, (∃ k t, k ∈ ioOf md as ∧ rd τ k = some (t, .ow) ∧ a ∈ Ss k) ∨ (¬ Shut τ Ss a ∧ (Src τ0 Ss0 a ∨ H0 a = none)) ∨ H a = none := fun b hb' => by
    rcases org b hb' with ⟨i, S', hm, hs, hbs⟩ | z
    · obtain ⟨l1, l2, l3, l4, ih⟩ := B
      have hi := (List.getElem?_eq_some_iff.mp hs).1
      have h1 : i < ts.length := by omega
      have h2 : i < vs.length := by omega
      rcases (ih i ts[i] vs[i] S' (List.getElem?_eq_getElem h1) (List.getElem?_eq_getElem h2) hs).2 with ⟨u, o', q1, q2, q3⟩ | ⟨k, w, q1, q2, q3, q4, q5⟩
      · exact .inr (.inl ⟨q3 b hbs, (ao.get i u o' S' q1 hs b hbs).1⟩)
      · rcases q5 with ⟨q5, q6⟩ | q5
        · subst q6 q3
          exact .inl ⟨k, _, ioOf_mem q5 q1, q2, hbs⟩
        · exact absurd q5 hm
    · exact .inr (.inr z)
  refine ⟨⟨r, fun b hb' ⟨j, ⟨u, w, hu, hw⟩, hbj⟩ => ?_, fun ho => ⟨(own ho).1, fun b hb' j hbj => ?_⟩⟩, fun b hb' => ⟨?_, fun ho => ?_⟩⟩
  · rcases slot j with ⟨S', h1, h2⟩ | ⟨h1, h2, h3⟩
    · rw [h2] at hbj; exact d S' h1 b hbj hb'
    · rw [h2] at hu; rw [h3] at hbj
      have ex : exclAt τ j := ⟨u, w, hu, hw⟩
      rcases from_ b hb' with ⟨k, t', hk, q1, q2⟩ | ⟨z, _⟩ | z
      · exact R.sep k j (fun e => h1 (e ▸ hk)) ⟨t', .ow, q1, rfl⟩ b q2 hbj
      · exact z ⟨j, ex, hbj⟩
      · exact (R.new z).1 j hbj
  · rcases slot j with ⟨S', h1, h2⟩ | ⟨h1, h2, h3⟩
    · rw [h2] at hbj; exact d S' h1 b hbj hb'
    · rw [h3] at hbj
      rcases (own ho).2 b hb' with z | z
      · obtain ⟨k, t', hk, q1, q2⟩ := ioOwn B z
        exact R.sep k j (fun e => h1 (e ▸ hk)) ⟨t', .ow, q1, rfl⟩ b q2 hbj
      · exact (R.new z).1 j hbj
  · rcases from_ b hb' with ⟨k, t', hk, q1, q2⟩ | ⟨_, z⟩ | z
    · exact p.src b ⟨k, t', .ow, q1, .inr rfl, q2⟩
    · exact z
    · exact .inr (p.back z)
  · rcases (own ho).2 b hb' with z | z
    · obtain ⟨k, t', hk, q1, q2⟩ := ioOwn B z
      exact p.own b ⟨k, t', q1, q2⟩
    · exact .inr (p.back z)
end

section
variable {X : Cx} {ad : Nat → Addr} {xr : Nat → List T → Value → Option Addr → Hp → Prop} {W : WX} {pos p : PySem.Pos} {G : Pg} {C : Nat → List T → CR} {k f : Nat} {fa : Addr} {fd : PySem.FuncData} {ps : List Str} {F : Fn} {x : Str}
theorem i_call {cs : List E} (hF : G.fns[f]? = some F) {σ : St} {H : Hp} {Q : VK} (h : eR X.K ad xr W (ev G C (.call f cs)) σ H Q) :
    L2.tCallS (spOf X.K ad xr F.md (C f)) (L2.WE W) (asR X.K ad xr W (evas G C cs)) σ H Q := by
  obtain ⟨τ, Ss, R, q⟩ := h
  rw [ev] at q
  refine ⟨τ, Ss, R, ?_⟩
  cases z : evas G C cs τ with
  | ok as τ1 =>
    rw [z] at q
    intro vs H1 Ss1 Sl p1 a ao
    replace q : Out X.K ad xr W τ σ H Ss Q (callR F.md (C f) as τ1) := by
      simp only [Rv.bind, hF] at q
      exact q
    unfold callR at q
    cases hb : bindA τ1 F.md as with
    | none => rw [hb] at q; exact q.elim
    | some ts =>
      rw [hb] at q
      simp only at q
      split at q
      · rename_i ap
        refine ⟨ts, supA Ss1 as Sl, argOk p1.rel hb a ap, ?_⟩
        cases hc : C f ts with
        | ok t o io =>
          rw [hc] at q
          intro v H' S Sio cp r d own org
          obtain ⟨vv, og⟩ := io_val p1 hb a ao ap cp r d own org
          exact (show Out X.K ad xr W τ σ H Ss Q (.ok (t, o) _) from q).ok (p1.trans (io_post p1.rel hb a ap cp)) vv og
        | ex c fs io =>
          rw [hc] at q
          intro cls d H' Sio cp x'
          exact q cls d H' _ (p1.trans (io_post p1.rel hb a ap cp)) x'
        | bad => rw [hc] at q; exact q
      · exact q.elim
  | ex d fs τ1 => rw [z] at q; exact q
  | bad => rw [z] at q; exact q
open L2 in
theorem pe_callS0 {sp : Sp} {E : St → XK} {CX : CXT} (F : FnOk X.prog X.w X.K X.mg X.base CX k fa fd ps sp) (hr : Room k X.A) (hg : Gl X x) (hm : X.mg x = some (.ref fa)) (hk : PySem.W.keepIn X.K (.ref fa) = true) (hb : Binds X.K fd ps []) (hx : ∀ σ, PassesAt CX X σ (E σ))
    (hdb : (x == ("__debug__" : Str)) = false) : PE X (.Call (.Name x p) [] [] pos) (tCallS sp E tNil) := by
  refine ⟨fun pins s σ H Q I h => ?_⟩
  refine PySem.wpAny_Call_Name_kw (ld_glob I hg hm ?_ hdb)
  exact PySem.W.callWith_K0 I.kIn hk (run_fnS (us := []) F hr hb (hx σ) I .nil h)
/-- a call of a def -/
theorem s_call {es : List Expr} {cs : List E} (hF : G.fns[f]? = some F) (O : FnOk X.prog X.w X.K X.mg X.base (L2.CX X.prog X.w) k fa fd ps (spOf X.K ad xr F.md (C f))) (hr : Room k X.A) (hg : Gl X x) (hm : X.mg x = some (.ref fa))
    (hk : PySem.W.keepIn X.K (.ref fa) = true) (hb : Binds X.K fd ps []) (hdb : (x == ("__debug__" : Str)) = false) (tk : Takes X W) (ha : PA X es (asR X.K ad xr W (evas G C cs))) (hs : (es.all fun e => !isStar e) = true) (hl : es.length = cs.length) :
    PE X (.Call (.Name x p) es [] pos) (eR X.K ad xr W (ev G C (.call f cs))) := by
  cases es with
  | nil =>
    refine PE.imp (pe_callS0 O hr hg hm hk hb (fun σ => L2.passAt tk σ) hdb) fun σ H Q h => ?_
    have h' := i_call hF h
    have e : cs = [] := List.length_eq_zero_iff.mp hl.symm
    subst e
    obtain ⟨τ, Ss, R, q⟩ := h'
    rw [evas] at q
    exact q [] H Ss [] (Post.refl R) trivial trivial
  | cons e es =>
    rw [List.all_cons, Bool.and_eq_true, Bool.not_eq_true'] at hs
    exact PE.imp (L2.pe_callS O hr hg hm hk hb (fun σ => L2.passAt tk σ) ha hdb (star_cons hs.1) (star_none hs.2)) fun σ H Q h => i_call hF h
end
end M
end

section
set_option Elab.async false
set_option autoImplicit false
set_option linter.all false
set_option maxRecDepth 100000
set_option maxHeartbeats 2000000
/-! SoundH: names take values; what loops walk. -/
namespace M
open PySem (Addr Str PyData Operator CmpOp UnaryOp Value Expr Stmt Scope NameKind)
open L2 (V Hp HO SqT SqL Rd upd upd_same upd_ne St VK XK WX TE TT TA TG TGs TI It R2 OpR UnR CallR Dp DpAll rI0 rI Cx Room TruV PE PT PW PA PG PGs PI Inv Vis Loc Gl Takes Sp FnOk Binds)

def updS (Ss : Nat → List Addr) (i : Nat) (S : List Addr) : Nat → List Addr := fun j => if j = i then S else Ss j
theorem updS_same {Ss : Nat → List Addr} {i : Nat} {S : List Addr} : updS Ss i S i = S := if_pos rfl
theorem updS_ne {Ss : Nat → List Addr} {i j : Nat} {S : List Addr} (h : j ≠ i) : updS Ss i S j = Ss j := if_neg h
section
variable {K : PySem.W.Frag} {ad : Nat → Addr} {H0 H H1 H2 H' : Hp} {τ0 τ τ1 τ2 τ' : Sl} {σ : St} {Ss0 Ss Ss1 Ss2 Ss' : Nat → List Addr} {t : T} {v : V} {S : List Addr} {i : Nat}
theorem join_set {i j : Nat} {v : V} (h : i < σ.length) : ((σ.set i (some v))[j]?).join = if j = i then some v else (σ[j]?).join := by
  by_cases e : j = i
  · subst e; rw [if_pos rfl, List.getElem?_set_self h]; rfl
  · rw [if_neg e, List.getElem?_set_ne (Ne.symm e)]
/-- a slot takes a value: seen by others too, or the slot's alone -/
theorem Post.put {w : Ow} {o : Bool} (p : Post K ad τ0 σ H0 Ss0 τ H Ss) (x : Val K ad τ H Ss t o v S) (og : Org τ0 H0 Ss0 o S) (hi : i < τ.length) (hw : w = .sh ∨ (w = .ow ∧ o = true)) :
    Post K ad τ0 (σ.set i (some v)) H0 Ss0 (put τ i t w) H (updS Ss i S) := by
  have hs : i < σ.length := by rw [← p.rel.len]; exact hi
  have rdE : ∀ j, rd (M.put τ i t w) j = if j = i then some (t, w) else rd τ j := fun j => rd_put hi
  have excl : w.excl = true → o = true := fun h => by
    rcases hw with z | ⟨_, z⟩
    · subst z; cases h
    · exact z
  refine ⟨⟨by unfold M.put; simp only [List.length_set]; exact p.rel.len, fun j => ?_, fun j k hjk hx a ha hk => ?_⟩, p.keep, p.there, fun j a ha => ?_, fun a ⟨j, u, hu, ha⟩ => ?_, fun a ⟨j, ⟨u, w', hu, hw'⟩, ha⟩ => ?_, fun a ⟨j, u, w', hu, hw', ha⟩ => ?_, fun j u hu a ha => ?_⟩
  · rw [rdE, join_set hs]
    by_cases e : j = i
    · subst e
      rw [if_pos rfl, if_pos rfl, updS_same]
      exact ⟨v, rfl, x.rep, fun h => (x.mine (excl h)).1⟩
    · rw [if_neg e, if_neg e, updS_ne e]; exact p.rel.ok j
  · obtain ⟨u, w', hu, hw'⟩ := hx
    rw [rdE] at hu
    by_cases e : j = i
    · subst e
      rw [if_pos rfl] at hu; cases hu
      rw [updS_same] at ha
      rw [updS_ne (Ne.symm hjk)] at hk
      exact (x.mine (excl hw')).2 a ha k hk
    · rw [if_neg e] at hu
      rw [updS_ne e] at ha
      by_cases e2 : k = i
      · subst e2
        rw [updS_same] at hk
        exact x.free a hk ⟨j, ⟨u, w', hu, hw'⟩, ha⟩
      · rw [updS_ne e2] at hk
        exact p.rel.sep j k hjk ⟨u, w', hu, hw'⟩ a ha hk
  · by_cases e : j = i
    · subst e; rw [updS_same] at ha; exact (og a ha).1.imp Src.slot id
    · rw [updS_ne e] at ha; exact p.sup j a ha
  · rw [rdE] at hu
    by_cases e : j = i
    · subst e
      rw [if_pos rfl] at hu; cases hu
      rw [updS_same] at ha
      exact (og a ha).2 (excl rfl)
    · rw [if_neg e] at hu; rw [updS_ne e] at ha
      exact p.own a ⟨j, u, hu, ha⟩
  · rw [rdE] at hu
    by_cases e : j = i
    · subst e
      rw [if_pos rfl] at hu; cases hu
      rw [updS_same] at ha
      exact ((og a ha).2 (excl hw')).imp Own.shut id
    · rw [if_neg e] at hu; rw [updS_ne e] at ha
      exact p.shut a ⟨j, ⟨u, w', hu, hw'⟩, ha⟩
  · rw [rdE] at hu
    by_cases e : j = i
    · subst e
      rw [updS_same] at ha
      exact (og a ha).1
    · rw [if_neg e] at hu; rw [updS_ne e] at ha
      exact p.src a ⟨j, u, w', hu, hw', ha⟩
  · rw [rdE] at hu
    by_cases e : j = i
    · subst e
      rw [if_pos rfl] at hu; cases hu
      rcases hw with z | ⟨z, _⟩ <;> cases z
    · rw [if_neg e] at hu; rw [updS_ne e] at ha
      exact p.lk j u hu a ha
theorem Val.sh {o : Bool} (x : Val K ad τ H Ss t o v S) : Val K ad τ H Ss t false v S := ⟨x.rep, x.free, fun h => nomatch h⟩
theorem Org.sh {o : Bool} (x : Org τ H Ss o S) : Org τ H Ss false S := fun a ha => ⟨(x a ha).1, fun h => nomatch h⟩
/-- a value outlasts a name's taking another one -/
theorem Val.put {w : Ow} {o o' : Bool} {u : T} {v' : V} {S' : List Addr} (R : Rel K ad τ σ H Ss) (x : Val K ad τ H Ss t o v S) (y : Val K ad τ H Ss u o' v' S') (hi : i < τ.length) (hw : w = .sh ∨ (w = .ow ∧ o = true)) (d : o = true → ∀ a ∈ S, a ∉ S') :
    Val K ad (M.put τ i t w) H (updS Ss i S) u false v' S' := by
  have rdE : ∀ j, rd (M.put τ i t w) j = if j = i then some (t, w) else rd τ j := fun j => rd_put hi
  refine ⟨y.rep, fun a ha ⟨j, ⟨u', w', hu, hw'⟩, hja⟩ => ?_, fun h => nomatch h⟩
  rw [rdE] at hu
  by_cases e : j = i
  · subst e
    rw [if_pos rfl] at hu; cases hu
    rw [updS_same] at hja
    rcases hw with z | ⟨_, z⟩
    · subst z; cases hw'
    · exact d z a hja ha
  · rw [if_neg e] at hu; rw [updS_ne e] at hja
    exact y.free a ha ⟨j, ⟨u', w', hu, hw'⟩, hja⟩

/-! ### targets -/
/-- a target's reading -/
def gTg (K : PySem.W.Frag) : Tg → TG
  | .nm i => L2.gName i
  | .tp is => L2.gTup K is.length (is.foldr (fun i g => L2.gCons (L2.gName i) g) L2.gNil)
def Tg.slots : Tg → List Nat
  | .nm i => [i]
  | .tp is => is
theorem put_all : ∀ {is : List Nat} {xs : List T} {vs : List V} {S : List Addr} {τ : Sl} {σ : St} {Ss : Nat → List Addr}, Post K ad τ0 σ H0 Ss0 τ H Ss → RepL K ad H xs vs S → (∀ a ∈ S, ¬ Shut τ Ss a) → Org τ0 H0 Ss0 false S → (∀ i ∈ is, i < τ.length) → xs.length = is.length →
    ∀ {Q : St → Hp → Prop}, (∀ σ' Ss', (∀ j, j ∉ is → σ'[j]? = σ[j]?) → (∀ j a, a ∈ Ss' j → a ∈ Ss j ∨ a ∈ S) → (∀ j u w, w.excl = true → rd ((is.zip xs).foldl (fun s p => put s p.1 p.2 .sh) τ) j = some (u, w) → rd τ j = some (u, w) ∧ Ss' j = Ss j) → Post K ad τ0 σ' H0 Ss0 ((is.zip xs).foldl (fun s p => put s p.1 p.2 .sh) τ) H Ss' → Q σ' H) → (is.foldr (fun i g => L2.gCons (L2.gName i) g) L2.gNil) vs σ H Q
  | [], xs, vs, S, τ, σ, Ss, p, r, f, og, hl, el, Q, q => by
    cases xs with
    | cons _ _ => simp at el
    | nil =>
      rw [RepL] at r
      exact ⟨r.1, q σ Ss (fun _ _ => rfl) (fun _ _ h => .inl h) (fun _ _ _ _ h => ⟨h, rfl⟩) p⟩
  | i :: is, [], vs, S, τ, σ, Ss, p, r, f, og, hl, el, Q, q => by simp at el
  | i :: is, x :: xs, vs, S, τ, σ, Ss, p, r, f, og, hl, el, Q, q => by
    rw [RepL] at r
    obtain ⟨v, vs', S1, S2, e, es, r1, r2⟩ := r
    subst es
    have w1 : Val K ad τ H Ss x false v S1 := ⟨r1, fun a ha => f a (by simp [ha]), fun h => nomatch h⟩
    have p' := p.put (w := .sh) (i := i) w1 (fun a ha => og a (by simp [ha])) (hl i (by simp)) (.inl rfl)
    have hx : ∀ j u w, w.excl = true → rd (M.put τ i x .sh) j = some (u, w) → rd τ j = some (u, w) ∧ updS Ss i S1 j = Ss j := fun j u w hw hu => by
      rw [rd_put (hl i (by simp))] at hu
      by_cases e : j = i
      · subst e; rw [if_pos rfl] at hu; cases hu; cases hw
      · rw [if_neg e] at hu
        exact ⟨hu, updS_ne e⟩
    have sh : ∀ a, Shut (M.put τ i x .sh) (updS Ss i S1) a → Shut τ Ss a := fun a ⟨j, ⟨u, w, hu, hw⟩, hja⟩ => by
      obtain ⟨h1, h2⟩ := hx j u w hw hu
      exact ⟨j, ⟨u, w, h1, hw⟩, h2 ▸ hja⟩
    refine ⟨v, vs', e, put_all (is := is) p' r2 (fun a ha hs => f a (by simp [ha]) (sh a hs)) (fun a ha => og a (by simp [ha])) (fun j hj => ?_) (by simpa using el) fun σ' Ss' hσ hsub hsh hp => q σ' Ss' (fun j hj => ?_) (fun j a ha => ?_) (fun j u w hw hu => let z := hsh j u w hw hu; let y := hx j u w hw z.1; ⟨y.1, z.2.trans y.2⟩) hp⟩
    · unfold M.put; rw [List.length_set]; exact hl j (by simp [hj])
    · rw [List.mem_cons, not_or] at hj
      rw [hσ j hj.2, List.getElem?_set_ne (Ne.symm hj.1)]
    · rcases hsub j a ha with z | z
      · by_cases e : j = i
        · subst e; rw [updS_same] at z; exact .inr (by simp [z])
        · rw [updS_ne e] at z; exact .inl z
      · exact .inr (by simp [z])
/-- a target takes a value -/
theorem put_tg {tg : Tg} {x : T} {τ1 : Sl} (p : Post K ad τ0 σ H0 Ss0 τ H Ss) (w : Val K ad τ H Ss x false v S) (og : Org τ0 H0 Ss0 false S) (hl : ∀ i ∈ tg.slots, i < τ.length) (h : putTg tg x τ = some τ1)
    {Q : St → Hp → Prop} (q : ∀ σ' Ss', (∀ j, j ∉ tg.slots → σ'[j]? = σ[j]?) → (∀ j a, a ∈ Ss' j → a ∈ Ss j ∨ a ∈ S) → (∀ j u w, w.excl = true → rd τ1 j = some (u, w) → rd τ j = some (u, w) ∧ Ss' j = Ss j) → Post K ad τ0 σ' H0 Ss0 τ1 H Ss' → Q σ' H) : gTg K tg v σ H Q := by
  cases tg with
  | nm i =>
    simp only [putTg, Option.some.injEq] at h
    subst h
    refine q _ _ (fun j hj => by rw [List.getElem?_set_ne]; exact fun e => hj (by simp [Tg.slots, e])) (fun j a ha => ?_) (fun j u w' hw' hu => ?_) (p.put (w := .sh) w og (hl i (by simp [Tg.slots])) (.inl rfl))
    · by_cases e : j = i
      · subst e; rw [updS_same] at ha; exact .inr ha
      · rw [updS_ne e] at ha; exact .inl ha
    · rw [rd_put (hl i (by simp [Tg.slots]))] at hu
      by_cases e : j = i
      · subst e; rw [if_pos rfl] at hu; cases hu; cases hw'
      · rw [if_neg e] at hu
        exact ⟨hu, updS_ne e⟩
  | tp is =>
    cases x <;> simp only [putTg, reduceCtorEq] at h
    rename_i xs
    split at h
    · rename_i e
      cases h
      have r := w.rep
      rw [Rep.tup_iff] at r
      obtain ⟨a, vs, ev, ht, rl⟩ := r
      exact ⟨a, vs, ev, ht, by rw [← rl.length]; exact e, put_all p rl w.free og hl e q⟩
    · cases h
end
section
variable {X : Cx}
/-- the target of an AST is the given one -/
def chkTg (N : List Str) (sc : Scope) : Tg → Expr → Bool
  | .nm i, .Name x _ => decide (N[i]? = some x) && (decide (sc.names.lookup x = some .local) || decide (sc.names.lookup x = some .cell))
  | .tp is, .Tuple es _ _ => decide (is.length = es.length) && ((is.zip es).all fun p => match p.2 with
    | .Name x _ => decide (N[p.1]? = some x) && (decide (sc.names.lookup x = some .local) || decide (sc.names.lookup x = some .cell))
    | _ => false)
  | _, _ => false
theorem assignEach_name {x : Str} {q : PySem.Pos} {es : List Expr} {env : PySem.Env} : PySem.assignEach (.Name x q :: es) env = (false, PySem.assign (.Name x q) env) :: PySem.assignEach es env := rfl
/-- the scope that the check knows, and the context's own -/
structure ScOk (sc : Scope) (X : Cx) : Prop where
  loc : ∀ x, sc.names.lookup x = some .local → X.env.scope.names.lookup x = some .local
  cell : ∀ x, sc.names.lookup x = some .cell → X.env.scope.names.lookup x = some .cell ∧ X.fn x = true
  free : ∀ x, sc.names.lookup x = some .free → X.env.scope.names.lookup x = some .cell ∨ X.env.scope.names.lookup x = some .free
  glob : ∀ x, sc.names.lookup x = some .globalImplicit → X.env.scope.names.lookup x = some .globalImplicit
theorem ScOk.store {sc : Scope} (s : ScOk sc X) {x : Str} (h : sc.names.lookup x = some .local ∨ sc.names.lookup x = some .cell) : Loc X.env.scope x ∧ (X.fn x = true ∨ X.env.scope.names.lookup x = some .local) :=
  h.elim (fun h => ⟨.inl (s.loc x h), .inr (s.loc x h)⟩) fun h => ⟨.inr (s.cell x h).1, .inl (s.cell x h).2⟩
theorem pgs_names {sc : Scope} (hN : X.N.Nodup) (hf : ScOk sc X) : ∀ {is : List Nat} {es : List Expr}, is.length = es.length → ((is.zip es).all fun p => match p.2 with
    | .Name x _ => decide (X.N[p.1]? = some x) && (decide (sc.names.lookup x = some .local) || decide (sc.names.lookup x = some .cell))
    | _ => false) = true → PGs X es (is.foldr (fun i g => L2.gCons (L2.gName i) g) L2.gNil) ∧ (PySem.assignEach es X.env).length = is.length ∧ (PySem.assignEach es X.env).findIdx? (·.1) = none
  | [], [], _, _ => ⟨L2.pgs_nil, rfl, rfl⟩
  | [], _ :: _, l, _ => by simp at l
  | _ :: _, [], l, _ => by simp at l
  | i :: is, e :: es, l, h => by
    rw [List.zip_cons_cons, List.all_cons, Bool.and_eq_true] at h
    obtain ⟨h1, h2⟩ := h
    obtain ⟨q1, q2, q3⟩ := pgs_names hN hf (is := is) (es := es) (by simpa using l) h2
    cases e <;> simp only [Bool.false_eq_true] at h1
    rename_i x q
    rw [Bool.and_eq_true, decide_eq_true_eq, Bool.or_eq_true, decide_eq_true_eq, decide_eq_true_eq] at h1
    obtain ⟨hx, hf'⟩ := hf.store h1.2
    refine ⟨L2.pgs_cons (L2.pg_name hN h1.1 hx hf') q1 rfl, ?_, ?_⟩
    · rw [assignEach_name, List.length_cons, q2, List.length_cons]
    · rw [assignEach_name, List.findIdx?_cons]; simp [q3]
theorem g_ok {sc : Scope} (hc : X.calm = true) (hN : X.N.Nodup) (hf : ScOk sc X) {tg : Tg} {e : Expr} (h : chkTg X.N sc tg e = true) : PG X e (gTg X.K tg) := by
  cases tg with
  | nm i =>
    cases e <;> simp only [chkTg, Bool.false_eq_true] at h
    rename_i x q
    rw [Bool.and_eq_true, decide_eq_true_eq, Bool.or_eq_true, decide_eq_true_eq, decide_eq_true_eq] at h
    exact L2.pg_name hN h.1 (hf.store h.2).1 (hf.store h.2).2
  | tp is =>
    cases e <;> simp only [chkTg, Bool.false_eq_true] at h
    rename_i es k q
    rw [Bool.and_eq_true, decide_eq_true_eq] at h
    obtain ⟨q1, q2, q3⟩ := pgs_names hN hf h.1 h.2
    exact L2.pg_tup hc q1 q2 q3
theorem chkTg_slots {N : List Str} {sc : Scope} {tg : Tg} {e : Expr} (h : chkTg N sc tg e = true) : ∀ i ∈ tg.slots, i < N.length := by
  cases tg with
  | nm i =>
    cases e <;> simp only [chkTg, Bool.false_eq_true] at h
    rw [Bool.and_eq_true, decide_eq_true_eq] at h
    intro j hj
    simp only [Tg.slots, List.mem_singleton] at hj
    subst hj
    exact (List.getElem?_eq_some_iff.mp h.1).1
  | tp is =>
    cases e <;> simp only [chkTg, Bool.false_eq_true] at h
    rename_i es k q
    rw [Bool.and_eq_true, decide_eq_true_eq, List.all_eq_true] at h
    intro j hj
    have hj' : j ∈ is := hj
    obtain ⟨k, hk, e⟩ := List.getElem_of_mem hj'
    have hk2 : k < es.length := by rw [← h.1]; exact hk
    have := h.2 (is[k], es[k]) (by
      have : (is.zip es)[k]'(by simp; omega) = (is[k], es[k]) := by simp
      rw [← this]; exact List.getElem_mem _)
    simp only at this
    split at this
    · rw [Bool.and_eq_true, decide_eq_true_eq] at this
      rw [← e]
      exact (List.getElem?_eq_some_iff.mp this.1).1
    · cases this
end
end M
end

section
set_option Elab.async false
set_option autoImplicit false
set_option linter.all false
set_option maxRecDepth 100000
set_option maxHeartbeats 2000000
/-! SoundI: what loops walk; comprehensions. -/
namespace M
open PySem (Addr Str PyData Operator CmpOp UnaryOp Value Expr Stmt Scope NameKind)
open L2 (V Hp HO SqT SqL Rd upd upd_same upd_ne St VK XK WX TE TT TA TG TGs TI It R2 OpR UnR CallR Dp DpAll rI0 rI Cx Room TruV PE PT PW PA PG PGs PI Inv Vis Loc Gl Takes Sp FnOk Binds)

/-- a walk over given items, as long as Hok holds of the heap -/
structure Walks (K : PySem.W.Frag) (ad : Nat → Addr) (J : It) (items : List T) (S0 : List Addr) (Hok : Hp → Prop) : Prop where
  go : ∀ i H, Hok H → i < items.length → J.go i H
  stop : ∀ H, Hok H → J.stop items.length H
  yld : ∀ i H x H', Hok H → J.yld i H x H' → ∀ t, items[i]? = some t → Grow H H' ∧ ∃ S, Rep K ad H' t x S ∧ ∀ a ∈ S, a ∈ S0

/-- the items that a source gives, and the slot that is locked -/
def srcE (a : Rv Ag) : Rv (List T × Option Nat) := a.bind fun a s1 => match src a s1 with
  | none => .bad
  | some (xs, s2, lk) => .ok (xs, lk) s2
/-- a list that nothing here knows: a new one, or one from before -/
def FarD (τ : Sl) (H : Hp) (Ss : Nat → List Addr) (H2 : Hp) (D : Addr) : Prop := H2 D = none ∨ (H D ≠ none ∧ ¬ Src τ Ss D ∧ ∃ xs, H2 D = some (.lst xs))
theorem keepD {τ τ2 : Sl} {H H2 H' : Hp} {Ss Ss2 : Nat → List Addr} {E : Addr → Prop} (k : Keep (fun a => Own τ2 Ss2 a ∨ E a) H2 H') (l : Lists (Own τ2 Ss2) H2) (f : ∀ D, E D → (∀ i, D ∉ Ss2 i) ∧ FarD τ H Ss H2 D) :
    ∃ O : Addr → Prop, Keep O H2 H' ∧ Lists O H2 ∧ ∀ a, O a → Own τ2 Ss2 a ∨ ((∀ i, a ∉ Ss2 i) ∧ H a ≠ none ∧ ¬ Src τ Ss a) :=
  ⟨fun a => Own τ2 Ss2 a ∨ (E a ∧ H2 a ≠ none), fun a o h n => k a o h fun z => n (z.imp id fun e => ⟨e, by rw [h]; simp⟩), fun a h => h.elim (l a) fun ⟨e, n⟩ => (f a e).2.elim (fun z => (n z).elim) fun z => z.2.2, fun a h => h.imp id fun ⟨e, n⟩ => ⟨(f a e).1, (f a e).2.elim (fun z => (n z).elim) fun z => ⟨z.1, z.2.1⟩⟩⟩
def OutI (K : PySem.W.Frag) (ad : Nat → Addr) (xr : Nat → List T → Value → Option Addr → Hp → Prop) (W : WX) (τ : Sl) (σ : St) (H : Hp) (Ss : Nat → List Addr) (R : It → Hp → Prop) : Rv (List T × Option Nat) → Prop
  | .ok x τ2 => ∀ J H2 Ss2 S0 Hok, Post K ad τ σ H Ss τ2 H2 Ss2 → Walks K ad J x.1 S0 Hok → Hok H2 → (∀ (E : Addr → Prop) H', (∀ D, E D → (∀ i, D ∉ Ss2 i) ∧ FarD τ H Ss H2 D) → Keep (fun a => Own τ2 Ss2 a ∨ E a) H2 H' → Hok H') → (∀ a ∈ S0, ¬ Shut τ2 Ss2 a ∧ (Src τ Ss a ∨ H a = none) ∧ H2 a ≠ none) →
      (∀ i, x.2 = some i → ∃ t, rd τ2 i = some (t, .lk) ∧ (∀ a ∈ Ss2 i, Own τ Ss a ∨ H a = none)) → R J H2
  | .ex c fs τ' => ∀ cls d H' Ss', Post K ad τ σ H Ss τ' H' Ss' → xr c fs cls d H' → W cls d σ H'
  | .bad => False
def iR (K : PySem.W.Frag) (ad : Nat → Addr) (xr : Nat → List T → Value → Option Addr → Hp → Prop) (W : WX) (f : Sl → Rv (List T × Option Nat)) : TI := fun σ H R =>
  ∃ τ Ss, Rel K ad τ σ H Ss ∧ OutI K ad xr W τ σ H Ss R (f τ)

/-! ### lists and tuples -/
def iSeq (K : PySem.W.Frag) (tl : TE) : TI := fun σ H R => tl σ H fun x H1 => ∃ a, x = .ref a ∧ (((∃ xs, SqL K H1 a xs) ∧ R (L2.Itl K a) H1) ∨ ((∃ xs, SqT K H1 a xs) ∧ R (L2.Itt K a) H1))
section
variable {X : Cx} {tg l : Expr} {tl : TE}
theorem pi_seq (hl : PE X l tl) : PI X tg l (iSeq X.K tl) := ⟨fun pins s σ H R I h => L2.thn (hl.run pins s σ H _ I h) fun v s1 q0 => by
  obtain ⟨x, H1, I1, r1, a, ea, q⟩ := q0
  rw [ea] at r1
  have ev : v = .ref a := r1
  rw [ev]
  rcases q with ⟨⟨xs, hq⟩, q⟩ | ⟨⟨xs, hq⟩, q⟩
  · obtain ⟨its, _, pl, _⟩ := I1.list hq
    exact PySem.wpAny_pyIter_list pl.isList (L2.pi_one (tk := s1.toks) I1 _ (L2.turn_list a _) ⟨_, PySem.Heap.get?_push_size _ rfl, rfl, rfl⟩ q)
  · obtain ⟨its, _, pl, _⟩ := I1.tuple hq
    exact PySem.wpAny_pyIter_tuple (show s1.heap.IsTuple a its.toArray from pl) (L2.pi_one (tk := s1.toks) I1 _ (L2.turn_tuple a _) ⟨_, PySem.Heap.get?_push_size _ rfl, rfl, rfl⟩ q)⟩
end
section
variable {K : PySem.W.Frag} {ad : Nat → Addr} {xr : Nat → List T → Value → Option Addr → Hp → Prop} {W : WX} {H H1 H2 H' : Hp} {τ τ1 τ2 τ' : Sl} {σ : St} {Ss Ss1 Ss2 Ss' : Nat → List Addr} {v : V} {S : List Addr}
/-- the walk over a list or tuple that stands -/
theorem walks_seq {t : T} {items : List T} (ht : t.items = some items) (r : Rep K ad H t v S) : ∃ a S0, v = .ref a ∧ (∀ x ∈ S0, x ∈ S) ∧ (T.lfL items = true → S0 = []) ∧
    ((∃ xs, SqL K H a xs) ∧ Walks K ad (L2.Itl K a) items S0 (fun H' => Rep K ad H' t v S) ∨ (∃ xs, SqT K H a xs) ∧ Walks K ad (L2.Itt K a) items S0 fun H' => Rep K ad H' t v S) := by
  have inj : ∀ {a b : Addr}, V.ref a = V.ref b → a = b := fun h => by cases h; rfl
  cases t <;> simp only [T.items, Option.some.injEq, reduceCtorEq] at ht <;> subst ht
  case tup xs =>
    rw [Rep.tup_iff] at r
    obtain ⟨a, vs, e, q, l⟩ := r
    refine ⟨a, S, e, fun _ h => h, l.lf, .inr ⟨⟨vs, q⟩, fun i H h hi => ?_, fun H h => ?_, fun i H x H' h hy t ht => ?_⟩⟩
    · rw [Rep.tup_iff] at h
      obtain ⟨a', vs', e', q', l'⟩ := h
      have ea := inj (e.symm.trans e'); subst ea
      have hl := l'.length
      have hi' : i < vs'.length := by omega
      exact ⟨vs', vs'[i], q', List.getElem?_eq_getElem hi'⟩
    · rw [Rep.tup_iff] at h
      obtain ⟨a', vs', e', q', l'⟩ := h
      have ea := inj (e.symm.trans e'); subst ea
      exact ⟨vs', q', Nat.le_of_eq l'.length.symm⟩
    · rw [Rep.tup_iff] at h
      obtain ⟨a', vs', e', q', l'⟩ := h
      have ea := inj (e.symm.trans e'); subst ea
      obtain ⟨eH, hy⟩ := hy
      subst eH
      obtain ⟨w, S1, h1, h2, h3⟩ := l'.get ht
      have := hy vs' q'
      rw [h1] at this; cases this
      exact ⟨Grow.refl _, S1, h2, h3⟩
  case lst xs =>
    rw [Rep.lst_iff] at r
    obtain ⟨a, vs, S', e, q, es, l⟩ := r
    subst es
    refine ⟨a, S', e, fun _ h => by simp [h], l.lf, .inl ⟨⟨vs, SqL.of q⟩, fun i H h hi => ?_, fun H h => ?_, fun i H x H' h hy t ht => ?_⟩⟩
    · rw [Rep.lst_iff] at h
      obtain ⟨a', vs', S2, e', q', es', l'⟩ := h
      have ea := inj (e.symm.trans e'); subst ea
      have hl := l'.length
      have hi' : i < vs'.length := by omega
      exact ⟨vs', vs'[i], SqL.of q', List.getElem?_eq_getElem hi'⟩
    · rw [Rep.lst_iff] at h
      obtain ⟨a', vs', S2, e', q', es', l'⟩ := h
      have ea := inj (e.symm.trans e'); subst ea
      exact ⟨vs', SqL.of q', Nat.le_of_eq l'.length.symm⟩
    · rw [Rep.lst_iff] at h
      obtain ⟨a', vs', S2, e', q', es', l'⟩ := h
      have ea := inj (e.symm.trans e'); subst ea
      cases es'
      obtain ⟨eH, hy⟩ := hy
      subst eH
      obtain ⟨w, S1, h1, h2, h3⟩ := l'.get ht
      have := hy vs' (SqL.of q')
      rw [h1] at this; cases this
      exact ⟨Grow.refl _, S1, h2, h3⟩
  case frz xs =>
    rw [Rep.frz_iff] at r
    obtain ⟨a, vs, e, q, l, es⟩ := r
    subst es
    refine ⟨a, [], e, fun _ h => h, fun _ => rfl, .inl ⟨⟨vs, q.sql⟩, fun i H h hi => ?_, fun H h => ?_, fun i H x H' h hy t ht => ?_⟩⟩
    · rw [Rep.frz_iff] at h
      obtain ⟨a', vs', e', q', l', _⟩ := h
      have ea := inj (e.symm.trans e'); subst ea
      have hl := l'.length
      have hi' : i < vs'.length := by omega
      exact ⟨vs', vs'[i], q'.sql, List.getElem?_eq_getElem hi'⟩
    · rw [Rep.frz_iff] at h
      obtain ⟨a', vs', e', q', l', _⟩ := h
      have ea := inj (e.symm.trans e'); subst ea
      exact ⟨vs', q'.sql, Nat.le_of_eq l'.length.symm⟩
    · rw [Rep.frz_iff] at h
      obtain ⟨a', vs', e', q', l', _⟩ := h
      have ea := inj (e.symm.trans e'); subst ea
      obtain ⟨eH, hy⟩ := hy
      subst eH
      obtain ⟨w, S1, h1, h2, h3⟩ := l'.get ht
      have := hy vs' q'.sql
      rw [h1] at this; cases this
      exact ⟨Grow.refl _, S1, h2, h3⟩
/-- a slot's way of holding changes: what it holds alone it still holds alone -/
theorem Post.lock {i : Nat} {t : T} {w w' : Ow} (p : Post K ad τ σ H Ss τ1 H1 Ss1) (h : rd τ1 i = some (t, w)) (hw : w.excl = true) (hw' : w'.excl = true) (ho : ∀ a ∈ Ss1 i, Own τ Ss a ∨ H a = none) : Post K ad τ σ H Ss (M.put τ1 i t w') H1 Ss1 := by
  have hi := rd_lt h
  have rdE : ∀ j, rd (M.put τ1 i t w') j = if j = i then some (t, w') else rd τ1 j := fun j => rd_put hi
  have ex : ∀ j, exclAt (M.put τ1 i t w') j → exclAt τ1 j := fun j ⟨u, x, hu, hx⟩ => by
    rw [rdE] at hu
    by_cases e : j = i
    · subst e; exact ⟨t, w, h, hw⟩
    · rw [if_neg e] at hu; exact ⟨u, x, hu, hx⟩
  refine ⟨⟨by unfold M.put; rw [List.length_set]; exact p.rel.len, fun j => ?_, fun j k hjk hx => p.rel.sep j k hjk (ex j hx)⟩, p.keep, p.there, p.sup, fun a ⟨j, u, hu, ha⟩ => ?_, fun a ⟨j, hx, ha⟩ => p.shut a ⟨j, ex j hx, ha⟩, fun a ⟨j, u, x, hu, hx, ha⟩ => ?_, fun j u hu a ha => ?_⟩
  · rw [rdE]
    by_cases e : j = i
    · subst e
      rw [if_pos rfl]
      have ok := p.rel.ok j
      rw [h] at ok
      obtain ⟨v, h1, h2, h3⟩ := ok
      exact ⟨v, h1, h2, fun _ => h3 hw⟩
    · rw [if_neg e]; exact p.rel.ok j
  · rw [rdE] at hu
    by_cases e : j = i
    · subst e; exact ho a ha
    · rw [if_neg e] at hu; exact p.own a ⟨j, u, hu, ha⟩
  · rw [rdE] at hu
    by_cases e : j = i
    · subst e; exact (ho a ha).imp Own.src id
    · rw [if_neg e] at hu; exact p.src a ⟨j, u, x, hu, hx, ha⟩
  · rw [rdE] at hu
    by_cases e : j = i
    · subst e; exact .inr (ho a ha)
    · rw [if_neg e] at hu; exact p.lk j u hu a ha
theorem own_slot {i : Nat} {t : T} (p : Post K ad τ σ H Ss τ1 H1 Ss1) (h : rd τ1 i = some (t, .ow)) : ∀ a ∈ Ss1 i, Own τ Ss a ∨ H a = none := fun a ha => p.own a ⟨i, t, h, ha⟩
/-- a source of items -/
theorem i_src {X : Cx} {tg e : Expr} {f : Sl → Rv Ag} (h : PE X e (agR X.K ad xr W f)) : PI X tg e (iR X.K ad xr W fun s => srcE (f s)) := ⟨fun pins s σ H R I q => (pi_seq h).run pins s σ H R I (by
  obtain ⟨τ, Ss, Rl, q⟩ := q
  refine ⟨τ, Ss, Rl, ?_⟩
  replace q : OutI X.K ad xr W τ σ H Ss R (srcE (f τ)) := q
  unfold srcE at q
  cases z : f τ with
  | ok a τ1 =>
    rw [z] at q
    intro v H1 Ss1 S p1 w1 o1
    replace q : OutI X.K ad xr W τ σ H Ss R (match src a τ1 with | none => .bad | some (xs, s2, lk) => .ok (xs, lk) s2) := q
    cases a with
    | v t o =>
      simp only [src] at q
      cases ht : t.items with
      | none => rw [ht] at q; exact q.elim
      | some items =>
        rw [ht] at q
        replace q : OutI X.K ad xr W τ σ H Ss R (.ok (items, none) τ1) := q
        have w : Val X.K ad τ1 H1 Ss1 t o v S := w1
        have og : Org τ H Ss o S := o1
        obtain ⟨a, S0, e, hS, _, hh⟩ := walks_seq ht w.rep
        have stay : ∀ (E : Addr → Prop) H', (∀ D, E D → (∀ i, D ∉ Ss1 i) ∧ FarD τ H Ss H1 D) → Keep (fun a => Own τ1 Ss1 a ∨ E a) H1 H' → Rep X.K ad H' t v S := fun E H' fd p => by
          obtain ⟨O, k1, k2, k3⟩ := keepD p p1.rel.lists fd
          refine w.rep.keep k1 k2 fun a ha q => ?_
          rcases k3 a q with z | ⟨_, z1, z2⟩
          · exact w.free a ha z.shut
          · exact (og a ha).1.elim z2 z1
        have there : ∀ a ∈ S0, H1 a ≠ none := fun a ha => by
          obtain ⟨ys, e⟩ := w.rep.lists a (hS a ha)
          rw [e]; simp
        refine ⟨a, e, hh.imp (fun ⟨x1, x2⟩ => ⟨x1, ?_⟩) fun ⟨x1, x2⟩ => ⟨x1, ?_⟩⟩
        · exact q _ H1 Ss1 S0 _ p1 x2 w.rep stay (fun a ha => ⟨w.free a (hS a ha), (og a (hS a ha)).1, there a ha⟩) fun i hi => by cases hi
        · exact q _ H1 Ss1 S0 _ p1 x2 w.rep stay (fun a ha => ⟨w.free a (hS a ha), (og a (hS a ha)).1, there a ha⟩) fun i hi => by cases hi
    | b i =>
      obtain ⟨hv, eS⟩ := (show σ[i]? = some (some v) ∧ S = [] from w1)
      -- any slot but an owned one: as it stands
      have plain : ∀ t w items, rd τ1 i = some (t, w) → w ≠ .ow → t.items = some items → T.lfL items = true → OutI X.K ad xr W τ σ H Ss R (.ok (items, none) τ1) → ∃ a, v = .ref a ∧ (((∃ xs, SqL X.K H1 a xs) ∧ R (L2.Itl X.K a) H1) ∨ ((∃ xs, SqT X.K H1 a xs) ∧ R (L2.Itt X.K a) H1)) := fun t w items hr hw ht hl q => by
        obtain ⟨v', e', r, _⟩ := p1.rel.get hr
        rw [hv] at e'; cases e'
        obtain ⟨a, S0, e, hS, h0, hh⟩ := walks_seq ht r
        have e0 := h0 hl; subst e0
        have stay : ∀ (E : Addr → Prop) H', (∀ D, E D → (∀ i, D ∉ Ss1 i) ∧ FarD τ H Ss H1 D) → Keep (fun a => Own τ1 Ss1 a ∨ E a) H1 H' → Rep X.K ad H' t v (Ss1 i) := fun E H' fd p => by
          obtain ⟨O, k1, k2, k3⟩ := keepD p p1.rel.lists fd
          refine r.keep k1 k2 fun a ha q => ?_
          rcases (k3 a q).symm with ⟨e, _, _⟩ | ⟨j, u, hu, hja⟩
          · exact e i ha
          · by_cases ej : j = i
            · subst ej; rw [hr] at hu; cases hu; exact hw rfl
            · exact p1.rel.sep j i ej ⟨u, .ow, hu, rfl⟩ a hja ha
        exact ⟨a, e, hh.imp (fun ⟨x1, x2⟩ => ⟨x1, q _ H1 Ss1 [] _ p1 x2 r stay (by simp) fun i hi => by cases hi⟩) fun ⟨x1, x2⟩ => ⟨x1, q _ H1 Ss1 [] _ p1 x2 r stay (by simp) fun i hi => by cases hi⟩⟩
      simp only [src] at q
      cases hr : rd τ1 i with
      | none => rw [hr] at q; exact q.elim
      | some tw =>
        obtain ⟨t, w⟩ := tw
        cases w with
        | ow =>
          rw [hr] at q
          simp only at q
          cases ht : t.items with
          | none => rw [ht] at q; exact q.elim
          | some items =>
            rw [ht] at q
            simp only [Option.bind_some] at q
            cases hl : T.lfL items with
            | false => rw [hl] at q; exact q.elim
            | true =>
              rw [hl] at q
              replace q : OutI X.K ad xr W τ σ H Ss R (.ok (items, some i) (put τ1 i t .lk)) := q
              obtain ⟨v', e', r, _⟩ := p1.rel.get hr
              rw [hv] at e'; cases e'
              obtain ⟨a, S0, e, hS, h0, hh⟩ := walks_seq ht r
              have e0 := h0 hl; subst e0
              have p2 := p1.lock (w' := .lk) hr rfl rfl (own_slot p1 hr)
              have hr2 : rd (put τ1 i t .lk) i = some (t, .lk) := by rw [rd_put (rd_lt hr), if_pos rfl]
              have stay : ∀ (E : Addr → Prop) H', (∀ D, E D → (∀ i, D ∉ Ss1 i) ∧ FarD τ H Ss H1 D) → Keep (fun a => Own (put τ1 i t .lk) Ss1 a ∨ E a) H1 H' → Rep X.K ad H' t v (Ss1 i) := fun E H' fd p => by
                obtain ⟨O, k1, k2, k3⟩ := keepD p p2.rel.lists fd
                refine r.keep k1 k2 fun a ha q => ?_
                rcases (k3 a q).symm with ⟨e, _, _⟩ | ⟨j, u, hu, hja⟩
                · exact e i ha
                · by_cases ej : j = i
                  · subst ej; rw [hr2] at hu; cases hu
                  · exact p2.rel.sep j i ej ⟨u, .ow, hu, rfl⟩ a hja ha
              have lk : ∀ j, some i = some j → ∃ t', rd (put τ1 i t .lk) j = some (t', .lk) ∧ ∀ a ∈ Ss1 j, Own τ Ss a ∨ H a = none := fun j hj => by cases hj; exact ⟨t, hr2, own_slot p1 hr⟩
              exact ⟨a, e, hh.imp (fun ⟨x1, x2⟩ => ⟨x1, q _ H1 Ss1 [] _ p2 x2 r stay (by simp) lk⟩) fun ⟨x1, x2⟩ => ⟨x1, q _ H1 Ss1 [] _ p2 x2 r stay (by simp) lk⟩⟩
        | sh =>
          rw [hr] at q
          simp only at q
          cases ht : t.items with
          | none => rw [ht] at q; exact q.elim
          | some items =>
            rw [ht] at q
            simp only [Option.bind_some] at q
            cases hl : T.lfL items with
            | false => rw [hl] at q; exact q.elim
            | true => rw [hl] at q; exact plain t .sh items hr (by simp) ht hl q
        | lk =>
          rw [hr] at q
          simp only at q
          cases ht : t.items with
          | none => rw [ht] at q; exact q.elim
          | some items =>
            rw [ht] at q
            simp only [Option.bind_some] at q
            cases hl : T.lfL items with
            | false => rw [hl] at q; exact q.elim
            | true => rw [hl] at q; exact plain t .lk items hr (by simp) ht hl q
        | ro =>
          rw [hr] at q
          simp only at q
          cases ht : t.items with
          | none => rw [ht] at q; exact q.elim
          | some items =>
            rw [ht] at q
            simp only [Option.bind_some] at q
            cases hl : T.lfL items with
            | false => rw [hl] at q; exact q.elim
            | true => rw [hl] at q; exact plain t .ro items hr (by simp) ht hl q
  | ex d fs τ1 => rw [z] at q; exact q
  | bad => rw [z] at q; exact q)⟩
end
end M
end

section
set_option Elab.async false
set_option autoImplicit false
set_option linter.all false
set_option maxRecDepth 100000
set_option maxHeartbeats 2000000
/-! SoundJ: comprehensions. -/
namespace M
open PySem (Addr Str PyData Operator CmpOp UnaryOp Value Expr Stmt Scope NameKind)
open L2 (V Hp HO SqT SqL Rd upd upd_same upd_ne St VK XK WX TE TT TA TG TGs TI It R2 OpR UnR CallR Dp DpAll rI0 rI Cx Room TruV PE PT PW PA PG PGs PI PTs Inv Vis Loc Gl Takes Sp FnOk Binds)

/-! ### slots wiped and put back -/
theorem wipe_length (s : Sl) : ∀ is : List Nat, (wipe s is).length = s.length
  | [] => rfl
  | i :: is => by rw [wipe, List.length_set, wipe_length]
theorem rd_wipe (s : Sl) : ∀ (is : List Nat) (j : Nat), rd (wipe s is) j = if j ∈ is then none else rd s j
  | [], j => by simp [wipe]
  | i :: is, j => by
    have ih := rd_wipe s is j
    unfold rd at ih ⊢
    rw [wipe]
    by_cases e : j = i
    · subst e
      by_cases h : j < (wipe s is).length
      · rw [List.getElem?_set_self h]; simp
      · rw [List.getElem?_eq_none (by rw [List.length_set]; omega)]; simp
    · rw [List.getElem?_set_ne (Ne.symm e), ih]
      simp [e]
theorem get_wipe (s : St) : ∀ (is : List Nat) (j : Nat), j ∉ is → (L2.wipe s is)[j]? = s[j]?
  | [], j, _ => rfl
  | i :: is, j, h => by
    rw [List.mem_cons, not_or] at h
    rw [L2.wipe, List.getElem?_set_ne (Ne.symm h.1), get_wipe s is j h.2]
theorem wipe_eq {s s' : St} (hl : s'.length = s.length) : ∀ {is : List Nat}, (∀ j, j ∉ is → s'[j]? = s[j]?) → L2.wipe s' is = L2.wipe s is := fun {is} h => by
  have key : ∀ (is : List Nat) (j : Nat) (u : St), u.length = s.length → j ∈ is → j < s.length → (L2.wipe u is)[j]? = some none := fun is => by
    induction is with
    | nil => intro j u _ hj; cases hj
    | cons i is ih =>
      intro j u hu hj hlt
      rw [L2.wipe]
      by_cases e : j = i
      · subst e; rw [List.getElem?_set_self (by rw [L2.wipe_length, hu]; exact hlt)]
      · rw [List.getElem?_set_ne (Ne.symm e)]
        exact ih j u hu ((List.mem_cons.mp hj).resolve_left e) hlt
  refine List.ext_getElem? fun j => ?_
  by_cases hj : j ∈ is
  · by_cases hlt : j < s.length
    · rw [key is j s' hl hj hlt, key is j s rfl hj hlt]
    · rw [List.getElem?_eq_none (by rw [L2.wipe_length]; omega), List.getElem?_eq_none (by rw [L2.wipe_length]; omega)]
  · rw [get_wipe s' is j hj, get_wipe s is j hj, h j hj]
theorem back_length (s0 s : Sl) : ∀ is : List Nat, (back s0 s is).length = s.length
  | [] => rfl
  | i :: is => by rw [back, List.length_set, back_length]
theorem rd_back (s0 s : Sl) (hl : s0.length = s.length) : ∀ (is : List Nat) (j : Nat), rd (back s0 s is) j = if j ∈ is then rd s0 j else rd s j
  | [], j => by simp [back]
  | i :: is, j => by
    have ih := rd_back s0 s hl is j
    unfold rd at ih ⊢
    rw [back]
    by_cases e : j = i
    · subst e
      by_cases h : j < (back s0 s is).length
      · rw [List.getElem?_set_self h]; simp
      · have h' : ¬ j < s0.length := by rw [back_length] at h; omega
        rw [List.getElem?_eq_none (by rw [List.length_set]; omega), List.getElem?_eq_none (by omega)]; simp
    · rw [List.getElem?_set_ne (Ne.symm e), ih]
      simp [e]
theorem mayHide_not {s : Sl} {is : List Nat} (h : mayHide s is = true) {j : Nat} (hj : j ∈ is) : ¬ exclAt s j := fun ⟨t, w, e, hw⟩ => by
  have := List.all_eq_true.mp h j hj
  rw [e] at this
  cases w <;> simp [Ow.excl] at hw this
def wipeS (Ss : Nat → List Addr) (is : List Nat) : Nat → List Addr := fun j => if j ∈ is then [] else Ss j
def backS (Ss0 Ss : Nat → List Addr) (is : List Nat) : Nat → List Addr := fun j => if j ∈ is then Ss0 j else Ss j
section
variable {K : PySem.W.Frag} {ad : Nat → Addr} {xr : Nat → List T → Value → Option Addr → Hp → Prop} {W : WX} {H0 H H1 H2 H' : Hp} {τ0 τ τ1 τ2 τ' : Sl} {σ σ' : St} {Ss0 Ss Ss1 Ss2 Ss' : Nat → List Addr} {v : V} {S : List Addr}
theorem Post.wipe (p : Post K ad τ0 σ H0 Ss0 τ H Ss) (is : List Nat) : Post K ad τ0 (L2.wipe σ is) H0 Ss0 (M.wipe τ is) H (wipeS Ss is) := by
  have at_ : ∀ j t w, rd (M.wipe τ is) j = some (t, w) → j ∉ is ∧ rd τ j = some (t, w) ∧ wipeS Ss is j = Ss j := fun j t w h => by
    rw [rd_wipe] at h
    by_cases e : j ∈ is
    · rw [if_pos e] at h; cases h
    · rw [if_neg e] at h; exact ⟨e, h, if_neg e⟩
  have sub : ∀ j a, a ∈ wipeS Ss is j → a ∈ Ss j := fun j a h => by
    unfold wipeS at h
    split at h
    · cases h
    · exact h
  refine ⟨⟨by rw [wipe_length, L2.wipe_length]; exact p.rel.len, fun j => ?_, fun i j hij ⟨t, w, h, hw⟩ a ha hb => ?_⟩, p.keep, p.there, fun j a ha => p.sup j a (sub j a ha), fun a ⟨j, t, h, ha⟩ => ?_, fun a ⟨j, ⟨t, w, h, hw⟩, ha⟩ => ?_, fun a ⟨j, t, w, h, hw, ha⟩ => ?_, fun j t h a ha => ?_⟩
  · rw [rd_wipe]
    unfold wipeS
    by_cases e : j ∈ is
    · rw [if_pos e, if_pos e]; rfl
    · rw [if_neg e, if_neg e, get_wipe σ is j e]; exact p.rel.ok j
  · obtain ⟨_, h1, h2⟩ := at_ i t w h
    exact p.rel.sep i j hij ⟨t, w, h1, hw⟩ a (sub i a ha) (sub j a hb)
  · obtain ⟨_, h1, h2⟩ := at_ j t _ h
    exact p.own a ⟨j, t, h1, sub j a ha⟩
  · obtain ⟨_, h1, h2⟩ := at_ j t w h
    exact p.shut a ⟨j, ⟨t, w, h1, hw⟩, sub j a ha⟩
  · obtain ⟨_, h1, h2⟩ := at_ j t w h
    exact p.src a ⟨j, t, w, h1, hw, sub j a ha⟩
  · obtain ⟨_, h1, h2⟩ := at_ j t _ h
    exact p.lk j t h1 a (sub j a ha)
/-- an object that no slot knows is changed -/
theorem Post.side {D : Addr} {xs ys : List V} (p : Post K ad τ0 σ H0 Ss0 τ H Ss) (hD : H0 D = none) (nD : ∀ i, D ∉ Ss i) (h : H D = some (.lst xs)) : Post K ad τ0 σ H0 Ss0 τ (upd H D (.lst ys)) Ss where
  rel := ⟨p.rel.len, fun j => by
    have ok := p.rel.ok j
    cases e : rd τ j with
    | none => rw [e] at ok; exact ok
    | some x =>
      rw [e] at ok
      obtain ⟨v, h1, h2, h3⟩ := ok
      exact ⟨v, h1, h2.keep (O := fun a => a = D) (fun a o ha hn => by rw [upd_ne hn]; exact ha) (fun a e => ⟨xs, e ▸ h⟩) fun a ha e => nD j (e ▸ ha), h3⟩, p.rel.sep⟩
  keep := fun a o ha hn => by
    rw [upd_ne (L2.ne_of_none ha hD)]; exact p.keep a o ha hn
  there := fun a ha => by
    by_cases e : a = D
    · subst e; exact (ha hD).elim
    · rw [upd_ne e]; exact p.there a ha
  sup := p.sup
  own := p.own
  shut := p.shut
  src := p.src
  lk := p.lk
theorem Val.side {D : Addr} {xs ys : List V} {t : T} {o : Bool} (x : Val K ad τ H Ss t o v S) (nD : D ∉ S) (h : H D = some (.lst xs)) : Val K ad τ (upd H D (.lst ys)) Ss t o v S :=
  ⟨x.rep.keep (O := fun a => a = D) (fun a o ha hn => by rw [upd_ne hn]; exact ha) (fun a e => ⟨xs, e ▸ h⟩) fun a ha e => nD (e ▸ ha), x.free, x.mine⟩
theorem Val.wipe {t : T} {o : Bool} (x : Val K ad τ H Ss t o v S) (is : List Nat) : Val K ad (M.wipe τ is) H (wipeS Ss is) t o v S := by
  have sub : ∀ j a, a ∈ wipeS Ss is j → a ∈ Ss j := fun j a h => by
    unfold wipeS at h
    split at h
    · cases h
    · exact h
  refine ⟨x.rep, fun a ha ⟨j, ⟨u, w, h, hw⟩, hj⟩ => ?_, fun h => ⟨(x.mine h).1, fun a ha j hj => (x.mine h).2 a ha j (sub j a hj)⟩⟩
  rw [rd_wipe] at h
  by_cases e : j ∈ is
  · rw [if_pos e] at h; cases h
  · rw [if_neg e] at h
    exact x.free a ha ⟨j, ⟨u, w, h, hw⟩, sub j a hj⟩
theorem Lt.wipe (p : Lt τ0 H0 Ss0 τ H Ss) (is : List Nat) : Lt τ0 H0 Ss0 (M.wipe τ is) H (wipeS Ss is) := by
  have at_ : ∀ j t w, rd (M.wipe τ is) j = some (t, w) → rd τ j = some (t, w) := fun j t w h => by
    rw [rd_wipe] at h
    by_cases e : j ∈ is
    · rw [if_pos e] at h; cases h
    · rw [if_neg e] at h; exact h
  have sub : ∀ j a, a ∈ wipeS Ss is j → a ∈ Ss j := fun j a h => by
    unfold wipeS at h
    split at h
    · cases h
    · exact h
  exact ⟨p.keep, p.there, fun a ⟨j, t, h, ha⟩ => p.own a ⟨j, t, at_ j t _ h, sub j a ha⟩, fun a ⟨j, ⟨t, w, h, hw⟩, ha⟩ => p.shut a ⟨j, ⟨t, w, at_ j t w h, hw⟩, sub j a ha⟩⟩
theorem Lt.side {D : Addr} {xs ys : List V} (p : Lt τ0 H0 Ss0 τ H Ss) (hD : H0 D = none) : Lt τ0 H0 Ss0 τ (upd H D (.lst ys)) Ss :=
  ⟨fun a o ha hn => by rw [upd_ne (L2.ne_of_none ha hD)]; exact p.keep a o ha hn, fun a ha => by
    by_cases e : a = D
    · subst e; exact (ha hD).elim
    · rw [upd_ne e]; exact p.there a ha, p.own, p.shut⟩
/-- behind a comprehension its own names are as they were -/
theorem Post.back_ (is : List Nat) (p2 : Post K ad τ0 σ H0 Ss0 τ2 H2 Ss2) (hm : mayHide τ2 is = true) (p : Post K ad τ0 (L2.wipe σ is) H0 Ss0 (M.wipe τ is) H Ss) (q : Lt τ2 H2 Ss2 (M.wipe τ is) H Ss) : Post K ad τ0 σ H0 Ss0 (M.back τ2 τ is) H (backS Ss2 Ss is) := by
  have R := p2.rel
  have hl : τ2.length = τ.length := by
    have h1 := p.rel.len
    rw [wipe_length, L2.wipe_length] at h1
    rw [R.len, h1]
  have rdE := rd_back τ2 τ hl is
  have out : ∀ j, j ∉ is → rd (M.wipe τ is) j = rd τ j := fun j hj => by rw [rd_wipe, if_neg hj]
  have exc : ∀ j, exclAt (M.back τ2 τ is) j → j ∉ is ∧ exclAt (M.wipe τ is) j ∧ backS Ss2 Ss is j = Ss j := fun j ⟨t, w, h, hw⟩ => by
    rw [rdE] at h
    by_cases e : j ∈ is
    · rw [if_pos e] at h; exact (mayHide_not hm e ⟨t, w, h, hw⟩).elim
    · rw [if_neg e] at h; exact ⟨e, ⟨t, w, by rw [out j e]; exact h, hw⟩, if_neg e⟩
  have hid : ∀ j ∈ is, ∀ a ∈ Ss2 j, ¬ Shut τ2 Ss2 a := fun j hj a ha => R.notShut (mayHide_not hm hj) a ha
  have cross : ∀ i j a, exclAt (M.wipe τ is) i → a ∈ Ss i → j ∈ is → a ∈ Ss2 j → False := fun i j a hi ha hj hb => by
    rcases q.shut a ⟨i, hi, ha⟩ with z | z
    · exact hid j hj a hb z
    · obtain ⟨xs, e⟩ := R.there hb
      rw [z] at e; cases e
  refine ⟨⟨by rw [back_length, ← hl]; exact R.len, fun j => ?_, fun i j hij hx a ha hb => ?_⟩, p.keep, p.there, fun j a ha => ?_, fun a ⟨j, t, h, ha⟩ => ?_, fun a ⟨j, hx, ha⟩ => ?_, fun a ⟨j, t, w, h, hw, ha⟩ => ?_, fun j t h a ha => ?_⟩
  · rw [rdE]
    unfold backS
    by_cases e : j ∈ is
    · rw [if_pos e, if_pos e]
      have ok := R.ok j
      cases z : rd τ2 j with
      | none => rw [z] at ok; exact ok
      | some x =>
        rw [z] at ok
        obtain ⟨v, h1, h2, h3⟩ := ok
        exact ⟨v, h1, h2.keep q.keep R.lists fun a ha q => hid j e a ha q.shut, h3⟩
    · rw [if_neg e, if_neg e]
      have ok := p.rel.ok j
      rw [out j e, get_wipe σ is j e] at ok
      exact ok
  · obtain ⟨h1, h2, h3⟩ := exc i hx
    rw [h3] at ha
    unfold backS at hb
    by_cases e : j ∈ is
    · rw [if_pos e] at hb; exact cross i j a h2 ha e hb
    · rw [if_neg e] at hb; exact p.rel.sep i j hij h2 a ha hb
  · unfold backS at ha
    by_cases e : j ∈ is
    · rw [if_pos e] at ha; exact p2.sup j a ha
    · rw [if_neg e] at ha; exact p.sup j a ha
  · obtain ⟨h1, h2, h3⟩ := exc j ⟨t, .ow, h, rfl⟩
    rw [h3] at ha
    rw [rdE, if_neg h1, ← out j h1] at h
    exact p.own a ⟨j, t, h, ha⟩
  · obtain ⟨h1, h2, h3⟩ := exc j hx
    rw [h3] at ha
    exact p.shut a ⟨j, h2, ha⟩
  · unfold backS at ha
    rw [rdE] at h
    by_cases e : j ∈ is
    · rw [if_pos e] at ha h; exact p2.src a ⟨j, t, w, h, hw, ha⟩
    · rw [if_neg e] at ha h
      exact p.src a ⟨j, t, w, by rw [out j e]; exact h, hw, ha⟩
  · obtain ⟨h1, h2, h3⟩ := exc j ⟨t, .lk, h, rfl⟩
    rw [h3] at ha
    rw [rdE, if_neg h1, ← out j h1] at h
    exact p.lk j t h a ha
/-- .. and a value made within stands apart from them -/
theorem Val.back_ (is : List Nat) {t : T} {o : Bool} (R : Rel K ad τ2 σ H2 Ss2) (hm : mayHide τ2 is = true) (hl : τ2.length = τ.length) (x : Val K ad (M.wipe τ is) H (Ss) t o v S) (og : o = true → ∀ a ∈ S, ∀ j ∈ is, a ∉ Ss2 j) : Val K ad (M.back τ2 τ is) H (backS Ss2 Ss is) t o v S := by
  refine ⟨x.rep, fun a ha ⟨j, ⟨u, w, h, hw⟩, hj⟩ => ?_, fun h => ⟨(x.mine h).1, fun a ha j hj => ?_⟩⟩
  · rw [rd_back τ2 τ hl is] at h
    unfold backS at hj
    by_cases e : j ∈ is
    · rw [if_pos e] at h; exact mayHide_not hm e ⟨u, w, h, hw⟩
    · rw [if_neg e] at h hj
      exact x.free a ha ⟨j, ⟨u, w, by rw [rd_wipe, if_neg e]; exact h, hw⟩, hj⟩
  · unfold backS at hj
    by_cases e : j ∈ is
    · rw [if_pos e] at hj
      exact og h a ha j e hj
    · rw [if_neg e] at hj; exact (x.mine h).2 a ha j hj
theorem unlk_cases (s : Sl) (i : Nat) : M.unlk s (some i) = s ∨ ∃ t, rd s i = some (t, .lk) ∧ M.unlk s (some i) = put s i t .ow := by
  cases e : rd s i with
  | none => left; simp only [M.unlk, e]
  | some x =>
    obtain ⟨t, w⟩ := x
    cases w with
    | lk => right; exact ⟨t, rfl, by simp only [M.unlk, e]⟩
    | _ => left; simp only [M.unlk, e]
/-- an unlocked slot -/
theorem Post.unlk {lk : Option Nat} (p : Post K ad τ σ H0 Ss0 τ1 H1 Ss1) (h : ∀ i t, lk = some i → rd τ1 i = some (t, .lk) → ∀ a ∈ Ss1 i, Own τ Ss0 a ∨ H0 a = none) : Post K ad τ σ H0 Ss0 (M.unlk τ1 lk) H1 Ss1 := by
  cases lk with
  | none => exact p
  | some i =>
    rcases unlk_cases τ1 i with e | ⟨t, e, e2⟩
    · rw [e]; exact p
    · rw [e2]; exact p.lock e rfl rfl (h i t rfl e)
theorem Val.unlk {lk : Option Nat} {t : T} {o : Bool} (x : Val K ad τ H Ss t o v S) : Val K ad (M.unlk τ lk) H Ss t o v S := by
  cases lk with
  | none => exact x
  | some i =>
    rcases unlk_cases τ i with e | ⟨u, e, e2⟩
    · rw [e]; exact x
    · rw [e2]
      refine ⟨x.rep, fun a ha ⟨j, ⟨u', w, h, hw⟩, hj⟩ => ?_, x.mine⟩
      rw [rd_put (rd_lt e)] at h
      by_cases ej : j = i
      · subst ej; exact x.free a ha ⟨j, ⟨u, .lk, e, rfl⟩, hj⟩
      · rw [if_neg ej] at h; exact x.free a ha ⟨j, ⟨u', w, h, hw⟩, hj⟩
end

/-! ### what has been gathered -/
structure Acc (K : PySem.W.Frag) (ad : Nat → Addr) (τ0 : Sl) (H0 : Hp) (Ss0 : Nat → List Addr) (τ : Sl) (H : Hp) (Ss : Nat → List Addr) (ys : List (T × Bool)) (vs : List V) (Sl : List (List Addr)) : Prop where
  val : ValL K ad τ H Ss ys vs Sl
  org : OrgL τ0 H0 Ss0 ys Sl
  cross : Cross ys Sl
section
variable {K : PySem.W.Frag} {ad : Nat → Addr} {H0 H H1 : Hp} {τ0 τ τ1 : Sl} {σ : St} {Ss0 Ss Ss1 : Nat → List Addr}
theorem valL_append : ∀ {xs ys : List (T × Bool)} {vs ws : List V} {A B : List (List Addr)}, ValL K ad τ H Ss xs vs A → ValL K ad τ H Ss ys ws B → ValL K ad τ H Ss (xs ++ ys) (vs ++ ws) (A ++ B)
  | [], _, [], _, [], _, _, h => h
  | _ :: _, _, _ :: _, _, _ :: _, _, h, g => ⟨h.1, valL_append h.2 g⟩
theorem orgL_append : ∀ {xs ys : List (T × Bool)} {A B : List (List Addr)}, xs.length = A.length → OrgL τ H Ss xs A → OrgL τ H Ss ys B → OrgL τ H Ss (xs ++ ys) (A ++ B)
  | [], _, [], _, _, _, h => h
  | _ :: _, _, _ :: _, _, l, h, g => ⟨h.1, orgL_append (by simpa using l) h.2 g⟩
theorem cross_append : ∀ {xs ys : List (T × Bool)} {A B : List (List Addr)}, xs.length = A.length → Cross xs A → Cross ys B → (∀ p ∈ xs.zip A, ∀ q ∈ ys.zip B, (p.1.2 || q.1.2) = true → ∀ a ∈ p.2, a ∉ q.2) → Cross (xs ++ ys) (A ++ B)
  | [], _, [], _, _, _, h, _ => h
  | x :: xs, ys, S :: A, B, l, h, g, c => by
    have l' : xs.length = A.length := by simpa using l
    refine ⟨fun p hp hh a ha => ?_, cross_append l' h.2 g fun p hp q hq => c p (by rw [List.zip_cons_cons]; exact List.mem_cons_of_mem _ hp) q hq⟩
    replace hp : p ∈ (xs ++ ys).zip (A ++ B) := hp
    rw [List.zip_append l'] at hp
    rcases List.mem_append.mp hp with z | z
    · exact h.1 p z hh a ha
    · exact c (x, S) (by rw [List.zip_cons_cons]; exact List.mem_cons_self) p z hh a ha
theorem ValL.mem : ∀ {xs : List (T × Bool)} {vs : List V} {A : List (List Addr)}, ValL K ad τ H Ss xs vs A → ∀ p ∈ xs.zip A, ∃ v, Val K ad τ H Ss p.1.1 p.1.2 v p.2
  | [], _, _, _, p, hp => by simp at hp
  | _ :: _, [], _, h, _, _ => by simp [ValL] at h
  | _ :: _, _ :: _, [], h, _, _ => by simp [ValL] at h
  | x :: xs, v :: vs, S :: A, h, p, hp => by
    rw [List.zip_cons_cons] at hp
    rcases List.mem_cons.mp hp with e | e
    · subst e; exact ⟨v, h.1⟩
    · exact ValL.mem h.2 p e
/-- more is gathered: made from a state in which what was gathered stands -/
theorem Acc.more {ys zs : List (T × Bool)} {vs ws : List V} {A B : List (List Addr)} (x : Acc K ad τ0 H0 Ss0 τ H Ss ys vs A) (p0 : Post K ad τ0 σ H0 Ss0 τ H Ss) {σ' : St} (p : Post K ad τ σ' H Ss τ1 H1 Ss1) (w : ValL K ad τ1 H1 Ss1 zs ws B) (o : OrgL τ H Ss zs B) (c : Cross zs B) :
    Acc K ad τ0 H0 Ss0 τ1 H1 Ss1 (ys ++ zs) (vs ++ ws) (A ++ B) := by
  have l := x.val.length.2
  refine ⟨valL_append (x.val.after p0.rel p) w, orgL_append l x.org (o.before p0), cross_append l x.cross c fun a ha b hb h q hq hq' => ?_⟩
  obtain ⟨v, va⟩ := x.val.mem a ha
  obtain ⟨h1, h2⟩ := o.mem b hb q hq'
  obtain ⟨xs, e⟩ := va.rep.lists q hq
  rw [Bool.or_eq_true] at h
  rcases h with h | h
  · rcases h1 with z | z
    · obtain ⟨i, z⟩ := z.slot
      exact (va.mine h).2 q hq i z
    · rw [e] at z; cases z
  · rcases h2 h with z | z
    · exact va.free q hq z.shut
    · rw [e] at z; cases z
end
end M
end

section
set_option Elab.async false
set_option autoImplicit false
set_option linter.all false
set_option maxRecDepth 100000
set_option maxHeartbeats 2000000
/-! SoundK: comprehensions, their turns. -/
namespace M
open PySem (Addr Str PyData Operator CmpOp UnaryOp Value Expr Stmt Scope NameKind)
open L2 (V Hp HO SqT SqL Rd upd upd_same upd_ne St VK XK WX TE TT TA TG TGs TI It R2 OpR UnR CallR Dp DpAll rI0 rI Cx Room TruV PE PT PW PA PG PGs PI PTs Inv Vis Loc Gl Takes Sp FnOk Binds)

abbrev W0 : WX := fun _ _ _ _ => False
/-- the tests of a comprehension: one at most -/
def ttR (K : PySem.W.Frag) (ad : Nat → Addr) (xr : Nat → List T → Value → Option Addr → Hp → Prop) (G : Pg) (C : Nat → List T → CR) : List E → TT
  | [] => L2.tYes
  | [c] => tR K ad xr W0 (ev G C c)
  | _ => fun _ _ _ => False
def pre (ys : List (T × Bool)) : Rv (List (T × Bool)) → Rv (List (T × Bool))
  | .ok zs s => .ok (ys ++ zs) s
  | _ => .bad
section
variable {K : PySem.W.Frag} {ad : Nat → Addr} {xr : Nat → List T → Value → Option Addr → Hp → Prop} {W : WX} {H0 H H1 H2 H' : Hp} {τ0 τ τ1 τ2 τ' : Sl} {σ σ' : St} {Ss0 Ss Ss1 Ss2 Ss' : Nat → List Addr} {v : V} {S : List Addr}
/-- a value outlasts a target's taking an item -/
theorem Val.taken {t : T} {o : Bool} {S' : List Addr} (x : Val K ad τ H Ss t o v S) (hsub : ∀ j a, a ∈ Ss' j → a ∈ Ss j ∨ a ∈ S') (hsh : ∀ a, Shut τ1 Ss' a → Shut τ Ss a) (d : o = true → ∀ a ∈ S, a ∉ S') : Val K ad τ1 H Ss' t o v S :=
  ⟨x.rep, fun a ha q => x.free a ha (hsh a q), fun h => ⟨(x.mine h).1, fun a ha i hi => (hsub i a hi).elim ((x.mine h).2 a ha i) (d h a ha)⟩⟩
theorem ValL.taken {S' : List Addr} (hsub : ∀ j a, a ∈ Ss' j → a ∈ Ss j ∨ a ∈ S') (hsh : ∀ a, Shut τ1 Ss' a → Shut τ Ss a) : ∀ {ys : List (T × Bool)} {vs : List V} {A : List (List Addr)}, ValL K ad τ H Ss ys vs A → (∀ p ∈ ys.zip A, p.1.2 = true → ∀ a ∈ p.2, a ∉ S') → ValL K ad τ1 H Ss' ys vs A
  | [], [], [], _, _ => trivial
  | x :: xs, v :: vs, S :: A, h, d => ⟨h.1.taken hsub hsh (d (x, S) (by rw [List.zip_cons_cons]; exact List.mem_cons_self)), ValL.taken hsub hsh h.2 fun p hp => d p (by rw [List.zip_cons_cons]; exact List.mem_cons_of_mem _ hp)⟩
theorem ValL.wipe (is : List Nat) : ∀ {ys : List (T × Bool)} {vs : List V} {A : List (List Addr)}, ValL K ad τ H Ss ys vs A → ValL K ad (M.wipe τ is) H (wipeS Ss is) ys vs A
  | [], [], [], _ => trivial
  | x :: xs, v :: vs, S :: A, h => ⟨h.1.wipe is, ValL.wipe is h.2⟩
theorem ValL.side {D : Addr} {xs' ys' : List V} (h0 : H D = some (.lst xs')) : ∀ {ys : List (T × Bool)} {vs : List V} {A : List (List Addr)}, ValL K ad τ H Ss ys vs A → (∀ S ∈ A, D ∉ S) → ValL K ad τ (upd H D (.lst ys')) Ss ys vs A
  | [], [], [], _, _ => trivial
  | x :: xs, v :: vs, S :: A, h, d => ⟨h.1.side (d S (by simp)) h0, ValL.side h0 h.2 fun S' hS => d S' (by simp [hS])⟩
theorem Val.grow {t : T} {o : Bool} (x : Val K ad τ H Ss t o v S) (g : Grow H H') : Val K ad τ H' Ss t o v S := ⟨x.rep.grow g, x.free, x.mine⟩
theorem ValL.grow (g : Grow H H') : ∀ {ys : List (T × Bool)} {vs : List V} {A : List (List Addr)}, ValL K ad τ H Ss ys vs A → ValL K ad τ H' Ss ys vs A
  | [], [], [], _ => trivial
  | x :: xs, v :: vs, S :: A, h => ⟨h.1.grow g, ValL.grow g h.2⟩
theorem zip_mem_right {α β : Type} {xs : List α} {ys : List β} {p : α × β} (h : p ∈ xs.zip ys) : p.2 ∈ ys := (List.of_mem_zip h).2

/-- what stays but for D, without where it comes from -/
structure LtD (E : Addr → Prop) (τ : Sl) (H : Hp) (Ss : Nat → List Addr) (τ' : Sl) (H' : Hp) (Ss' : Nat → List Addr) : Prop where
  keep : Keep (fun a => Own τ Ss a ∨ E a) H H'
  there : ∀ a, H a ≠ none → H' a ≠ none
  own : ∀ a, Own τ' Ss' a → Own τ Ss a ∨ H a = none
  shut : ∀ a, Shut τ' Ss' a → Shut τ Ss a ∨ H a = none
  lk : ∀ i t, rd τ' i = some (t, .lk) → ∀ a ∈ Ss' i, (∃ t0, rd τ i = some (t0, .lk) ∧ a ∈ Ss i) ∨ Own τ Ss a ∨ H a = none
theorem LtD.back {E : Addr → Prop} (p : LtD E τ H Ss τ1 H1 Ss1) {a : Addr} (h : H1 a = none) : H a = none := Classical.byContradiction fun q => p.there a q h
theorem LtD.lt {E : Addr → Prop} (p : LtD E τ H Ss τ1 H1 Ss1) (hD : ∀ D, E D → H D = none) : Lt τ H Ss τ1 H1 Ss1 := ⟨fun a o h n => p.keep a o h fun z => z.elim n fun e => (by rw [hD a e] at h; cases h), p.there, p.own, p.shut⟩
theorem Post.ltD (E : Addr → Prop) (p : Post K ad τ σ H Ss τ1 H1 Ss1) : LtD E τ H Ss τ1 H1 Ss1 := ⟨fun a o h n => p.keep a o h fun z => n (.inl z), p.there, p.own, p.shut, p.lk⟩
theorem LtD.trans {E : Addr → Prop} (a : LtD E τ H Ss τ1 H1 Ss1) (b : LtD E τ1 H1 Ss1 τ2 H2 Ss2) : LtD E τ H Ss τ2 H2 Ss2 where
  keep := fun c o h n => by
    refine b.keep c o (a.keep c o h n) fun q => ?_
    rcases q with q | q
    · rcases a.own c q with z | z
      · exact n (.inl z)
      · rw [h] at z; cases z
    · exact n (.inr q)
  there := fun c h => b.there c (a.there c h)
  own := fun c h => (b.own c h).elim (a.own c) fun z => .inr (a.back z)
  shut := fun c h => (b.shut c h).elim (a.shut c) fun z => .inr (a.back z)
  lk := fun i t h c hc => by
    rcases b.lk i t h c hc with ⟨t0, h0, h1⟩ | z | z
    · exact a.lk i t0 h0 c h1
    · exact .inr (a.own c z)
    · exact .inr (.inr (a.back z))
theorem LtD.wipe {E : Addr → Prop} (p : LtD E τ0 H0 Ss0 τ H Ss) (is : List Nat) : LtD E τ0 H0 Ss0 (M.wipe τ is) H (wipeS Ss is) := by
  have at_ : ∀ j t w, rd (M.wipe τ is) j = some (t, w) → rd τ j = some (t, w) := fun j t w h => by
    rw [rd_wipe] at h
    by_cases e : j ∈ is
    · rw [if_pos e] at h; cases h
    · rw [if_neg e] at h; exact h
  have sub : ∀ j a, a ∈ wipeS Ss is j → a ∈ Ss j := fun j a h => by
    unfold wipeS at h
    split at h
    · cases h
    · exact h
  exact ⟨p.keep, p.there, fun a ⟨j, t, h, ha⟩ => p.own a ⟨j, t, at_ j t _ h, sub j a ha⟩, fun a ⟨j, ⟨t, w, h, hw⟩, ha⟩ => p.shut a ⟨j, ⟨t, w, at_ j t w h, hw⟩, sub j a ha⟩, fun i t h a ha => p.lk i t (at_ i t _ h) a (sub i a ha)⟩
theorem LtD.side {E : Addr → Prop} {D : Addr} {ys : List V} (p : LtD E τ0 H0 Ss0 τ H Ss) (hE : E D) : LtD E τ0 H0 Ss0 τ (upd H D (.lst ys)) Ss :=
  ⟨fun a o ha hn => by rw [upd_ne (fun e : a = D => hn (.inr (by rw [e]; exact hE)))]; exact p.keep a o ha hn, fun a ha => by
    by_cases e : a = D
    · subst e; rw [upd_same]; simp
    · rw [upd_ne e]; exact p.there a ha, p.own, p.shut, p.lk⟩
/-- the state between two turns or within one: D holds what has been gathered; S0: the lists of the items and of hidden names -/
structure Tn (K : PySem.W.Frag) (ad : Nat → Addr) (τ0 : Sl) (H0 : Hp) (Ss0 : Nat → List Addr) (s2 : Sl) (H2 : Hp) (Ss2 : Nat → List Addr) (S0 : List Addr) (D : Addr) (σ' : St) (τ : Sl) (H : Hp) (Ss : Nat → List Addr) (ys : List (T × Bool)) (vs : List V) (A : List (List Addr)) : Prop where
  post : Post K ad τ0 σ' H0 Ss0 τ H Ss
  lt : LtD (fun a => a = D) s2 H2 Ss2 τ H Ss
  acc : Acc K ad τ0 H0 Ss0 τ H Ss ys vs A
  orgX : ∀ p ∈ ys.zip A, p.1.2 = true → ∀ a ∈ p.2, a ∉ S0
  at_ : H D = some (.lst vs)
  nD : ∀ i, D ∉ Ss i
  nA : ∀ S ∈ A, D ∉ S
variable {s2 : Sl} {own : List Nat} {D : Addr} {τi s1 : Sl} {Ssi : Nat → List Addr} {ys : List (T × Bool)} {vs : List V} {A : List (List Addr)} {S0 : List Addr}
theorem Tn.after (x : Tn K ad τ0 H0 Ss0 s2 H2 Ss2 S0 D σ' s1 H Ss' ys vs A) (p : Post K ad s1 σ' H Ss' τ1 H1 Ss1) : Tn K ad τ0 H0 Ss0 s2 H2 Ss2 S0 D σ' τ1 H1 Ss1 ys vs A := by
  have nO : ¬ Own s1 Ss' D := fun q => x.nD _ q.slot.choose_spec
  refine ⟨x.post.trans p, x.lt.trans (p.ltD _), ⟨x.acc.val.after x.post.rel p, x.acc.org, x.acc.cross⟩, x.orgX, p.keep D _ x.at_ nO, fun i hi => ?_, x.nA⟩
  rcases p.sup i D hi with ⟨j, z⟩ | z
  · exact x.nD j z
  · rw [x.at_] at z; cases z
theorem Tn.wipe (x : Tn K ad τ0 H0 Ss0 s2 H2 Ss2 S0 D σ' s1 H Ss' ys vs A) (hσ : L2.wipe σ' own = L2.wipe σ own) : Tn K ad τ0 H0 Ss0 s2 H2 Ss2 S0 D (L2.wipe σ own) (M.wipe s1 own) H (wipeS Ss' own) ys vs A :=
  ⟨hσ ▸ x.post.wipe own, x.lt.wipe own, ⟨x.acc.val.wipe own, x.acc.org, x.acc.cross⟩, x.orgX, x.at_, fun i hi => by
    unfold wipeS at hi
    split at hi
    · cases hi
    · exact x.nD i hi, x.nA⟩
/-- one more is gathered -/
theorem Tn.more {z : T × Bool} {w : V} (x : Tn K ad τ0 H0 Ss0 s2 H2 Ss2 S0 D σ' s1 H Ss' ys vs A) (hD0 : H0 D = none) (h0 : ∀ a ∈ S0, ¬ Shut s2 Ss2 a ∧ H2 a ≠ none) (p : Post K ad s1 σ' H Ss' τ1 H1 Ss1) (y : Val K ad τ1 H1 Ss1 z.1 z.2 w S) (o : Org s1 H Ss' z.2 S) :
    H1 D = some (.lst vs) ∧ Tn K ad τ0 H0 Ss0 s2 H2 Ss2 S0 D σ' τ1 (upd H1 D (.lst (vs ++ [w]))) Ss1 (ys ++ [z]) (vs ++ [w]) (A ++ [S]) := by
  have x1 := x.after p
  have a1 := x.acc.more x.post p (show ValL K ad τ1 H1 Ss1 [z] [w] [S] from ⟨y, trivial⟩) ⟨o, trivial⟩ ⟨fun p hp => by simp at hp, trivial⟩
  have nS : D ∉ S := fun hd => by
    rcases (o D hd).1 with z | z
    · exact x.nD _ z.slot.choose_spec
    · rw [x.at_] at z; cases z
  have nA' : ∀ S' ∈ A ++ [S], D ∉ S' := fun S' hS => by
    rcases List.mem_append.mp hS with z | z
    · exact x.nA S' z
    · rw [List.mem_singleton] at z; subst z; exact nS
  refine ⟨x1.at_, x1.post.side hD0 x1.nD x1.at_, x1.lt.side rfl, ⟨a1.val.side x1.at_ nA', a1.org, a1.cross⟩, fun q hq hq2 a ha => ?_, upd_same, x1.nD, nA'⟩
  rw [List.zip_append x.acc.val.length.2] at hq
  rcases List.mem_append.mp hq with hq | hq
  · exact x.orgX q hq hq2 a ha
  · simp only [List.zip_cons_cons, List.zip_nil_right, List.mem_singleton] at hq
    subst hq
    intro hs
    obtain ⟨n1, n2⟩ := h0 a hs
    rcases (o a ha).2 hq2 with q | q
    · rcases x.lt.own a q with q | q
      · exact n1 q.shut
      · exact n2 q
    · exact n2 (x.lt.back q)
theorem putTg_length {tg : Tg} {t : T} {s s1 : Sl} (h : putTg tg t s = some s1) : s1.length = s.length := by
  cases tg with
  | nm i => simp only [putTg, Option.some.injEq] at h; subst h; simp [M.put]
  | tp is =>
    cases t <;> simp only [putTg, reduceCtorEq] at h
    split at h
    · cases h
      rename_i ts _
      have : ∀ (l : List (Nat × T)) (s : Sl), (l.foldl (fun s p => M.put s p.1 p.2 .sh) s).length = s.length := fun l => by
        induction l with
        | nil => intro s; rfl
        | cons a l ih => intro s; rw [List.foldl_cons, ih]; simp [M.put]
      exact this _ _
    · cases h
/-- the item of a turn is taken -/
theorem Tn.take {tg : Tg} {t : T} {x : V} (w : Tn K ad τ0 H0 Ss0 s2 H2 Ss2 S0 D (L2.wipe σ own) (M.wipe τi own) H Ssi ys vs A) (g : Grow H H') (r : Rep K ad H' t x S) (hS : ∀ a ∈ S, a ∈ S0 ∧ (Src τ0 Ss0 a ∨ H0 a = none))
    (h0 : ∀ a ∈ S0, ¬ Shut s2 Ss2 a ∧ H2 a ≠ none) (hDS : D ∉ S0) (hl : ∀ i ∈ tg.slots, i < τi.length) (hsl : ∀ i ∈ tg.slots, i ∈ own) (h : putTg tg t (M.wipe τi own) = some s1)
    {Q : St → Hp → Prop} (q : ∀ σ' Ss', L2.wipe σ' own = L2.wipe σ own → Tn K ad τ0 H0 Ss0 s2 H2 Ss2 S0 D σ' s1 H' Ss' ys vs A → Q σ' H') : gTg K tg x (L2.wipe σ own) H' Q := by
  have nsh : ∀ a ∈ S0, ¬ Shut (M.wipe τi own) Ssi a := fun a ha q => (w.lt.shut a q).elim (h0 a ha).1 (h0 a ha).2
  have p1 := w.post.trans (Post.grow w.post.rel g)
  refine put_tg p1 (x := t) (S := S) (v := x) ⟨r, fun a ha => nsh a (hS a ha).1, fun z => nomatch z⟩ (fun a ha => ⟨(hS a ha).2, fun z => nomatch z⟩) (by rw [wipe_length]; exact hl) h fun σ' Ss' hσ hsub hex p => ?_
  have hsh : ∀ a, Shut s1 Ss' a → Shut (M.wipe τi own) Ssi a := fun a ⟨j, ⟨u, ww, hu, hw⟩, hja⟩ => by
    obtain ⟨h1, h2⟩ := hex j u ww hw hu
    exact ⟨j, ⟨u, ww, h1, hw⟩, h2 ▸ hja⟩
  have hlen : σ'.length = (L2.wipe σ own).length := by
    have e1 := p.rel.len
    have e2 := p1.rel.len
    have e3 := putTg_length h
    omega
  refine q σ' Ss' ?_ ⟨p, ⟨fun a o ha hn => g a o (w.lt.keep a o ha hn), fun a ha => (Post.grow (K := K) (ad := ad) (σ := L2.wipe σ own) w.post.rel g).there a (w.lt.there a ha), fun a ⟨j, u, hu, hja⟩ => ?_, fun a ha => w.lt.shut a (hsh a ha), fun j u hu a ha => ?_⟩, ⟨(w.acc.val.grow g).taken (S' := S) hsub hsh fun p hp hp2 a ha hs => w.orgX p hp hp2 a ha (hS a hs).1, w.acc.org, w.acc.cross⟩, w.orgX, g D _ w.at_, fun i hi => ?_, w.nA⟩
  · have e := wipe_eq hlen (is := own) fun j hj => hσ j fun z => hj (hsl j z)
    have e2 : L2.wipe (L2.wipe σ own) own = L2.wipe σ own := by
      refine wipe_eq (by rw [L2.wipe_length]) fun j hj => get_wipe σ own j hj
    rw [e, e2]
  · obtain ⟨h1, h2⟩ := hex j u .ow rfl hu
    exact w.lt.own a ⟨j, u, h1, h2 ▸ hja⟩
  · obtain ⟨h1, h2⟩ := hex j u .lk rfl hu
    exact w.lt.lk j u h1 a (h2 ▸ ha)
  · rcases hsub i D hi with z | z
    · exact w.nD i z
    · exact hDS (hS D z).1

/-! ### all turns -/
theorem lcGo_cons {tg : Tg} {body : Sl → Rv (List (T × Bool))} {x : T} {xs : List T} {s : Sl} {zs : List (T × Bool)} {s3 : Sl} (h : lcGo own tg body (x :: xs) s = .ok zs s3) :
    ∃ s1 ys s2 ws, putTg tg x (M.wipe s own) = some s1 ∧ body s1 = .ok ys s2 ∧ lcGo own tg body xs s2 = .ok ws s3 ∧ zs = ys ++ ws := by
  rw [lcGo] at h
  cases h1 : putTg tg x (M.wipe s own) with
  | none => rw [h1] at h; cases h
  | some s1 =>
    rw [h1] at h
    cases h2 : body s1 with
    | ok ys s2 =>
      simp only [h2] at h
      cases h3 : lcGo own tg body xs s2 with
      | ok ws s4 => simp only [h3] at h; cases h; exact ⟨s1, ys, s2, ws, rfl, h2, h3, rfl⟩
      | ex _ _ _ => simp only [h3] at h; cases h
      | bad => simp only [h3] at h; cases h
    | ex _ _ _ => simp only [h2] at h; cases h
    | bad => simp only [h2] at h; cases h
/-- the turns of a comprehension's loop: W and what it gives; Fin: all that is gathered in the end -/
theorem turns {J : It} {items : List T} {Hok : Hp → Prop} {tg : Tg} {body : Sl → Rv (List (T × Bool))} {SI : List Addr} {all : List (T × Bool)} {sE : Sl} {B : St → Hp → (Hp → Prop) → Prop} {Z : Hp → Prop}
    (wk : Walks K ad J items SI Hok) (hok : ∀ H', Keep (fun a => Own s2 Ss2 a ∨ a = D) H2 H' → Hok H') (hSI : ∀ a ∈ SI, a ∈ S0 ∧ (Src τ0 Ss0 a ∨ H0 a = none)) (h0 : ∀ a ∈ S0, ¬ Shut s2 Ss2 a ∧ H2 a ≠ none) (hDS : D ∉ S0)
    (hl : ∀ i ∈ tg.slots, i < σ.length) (hsl : ∀ i ∈ tg.slots, i ∈ own) (hall : all.length ≤ LIM)
    (hbody : ∀ σ' s1 H' Ss' ys vs A zs s3 (Nx : Hp → Prop), Tn K ad τ0 H0 Ss0 s2 H2 Ss2 S0 D σ' s1 H' Ss' ys vs A → body s1 = .ok zs s3 → (ys ++ zs).length ≤ LIM → L2.wipe σ' own = L2.wipe σ own →
      (∀ σ'' H5 Ss5 vs' A', L2.wipe σ'' own = L2.wipe σ own → Tn K ad τ0 H0 Ss0 s2 H2 Ss2 S0 D σ'' s3 H5 Ss5 (ys ++ zs) vs' A' → Nx H5) → B σ' H' Nx)
    (hend : ∀ τ H Ss vs A, Tn K ad τ0 H0 Ss0 s2 H2 Ss2 S0 D (L2.wipe σ own) (M.wipe τ own) H Ss all vs A → τ = sE → Z H)
    {i m : Nat} {H : Hp} (w : m = items.length - i ∧ i ≤ items.length ∧ ∃ τi Ssi ys vs A zs, Tn K ad τ0 H0 Ss0 s2 H2 Ss2 S0 D (L2.wipe σ own) (M.wipe τi own) H Ssi ys vs A ∧ lcGo own tg body (items.drop i) τi = .ok zs sE ∧ ys ++ zs = all) :
    (J.stop i H ∧ Z H) ∨ (J.go i H ∧ ∃ Nx : Hp → Prop, (∀ H', Nx H' → ∃ m', m' < m ∧ (m' = items.length - (i + 1) ∧ i + 1 ≤ items.length ∧ ∃ τi Ssi ys vs A zs, Tn K ad τ0 H0 Ss0 s2 H2 Ss2 S0 D (L2.wipe σ own) (M.wipe τi own) H' Ssi ys vs A ∧ lcGo own tg body (items.drop (i + 1)) τi = .ok zs sE ∧ ys ++ zs = all)) ∧
      ∀ x H', J.yld i H x H' → gTg K tg x (L2.wipe σ own) H' fun σ2 H2 => L2.wipe σ2 own = L2.wipe σ own ∧ B σ2 H2 Nx) := by
  obtain ⟨hm, hi, τi, Ssi, ys, vs, A, zs, tn, go, hz⟩ := w
  have ho : Hok H := hok H tn.lt.keep
  by_cases e : i = items.length
  · subst e
    rw [List.drop_length, lcGo] at go
    cases go
    rw [List.append_nil] at hz
    subst hz
    exact .inl ⟨wk.stop H ho, hend _ H Ssi vs A tn rfl⟩
  · have hlt : i < items.length := by omega
    rw [List.drop_eq_getElem_cons hlt] at go
    obtain ⟨s1, ys1, s3, ws, e1, e2, e3, e4⟩ := lcGo_cons go
    subst e4
    have hle : (ys ++ ys1).length ≤ LIM := by
      rw [← hz] at hall
      simp only [List.length_append] at hall ⊢
      omega
    refine .inr ⟨wk.go i H ho hlt, fun H' => ∃ σ'' Ss5 vs' A', L2.wipe σ'' own = L2.wipe σ own ∧ Tn K ad τ0 H0 Ss0 s2 H2 Ss2 S0 D σ'' s3 H' Ss5 (ys ++ ys1) vs' A', fun H' ⟨σ'', Ss5, vs', A', hw, tn'⟩ => ?_, fun x H' hy => ?_⟩
    · exact ⟨items.length - (i + 1), by omega, rfl, hlt, s3, _, _, vs', A', ws, tn'.wipe hw, e3, by rw [List.append_assoc]; exact hz⟩
    · obtain ⟨g, S, r, hS⟩ := wk.yld i H x H' ho hy _ (List.getElem?_eq_getElem hlt)
      have hlen : τi.length = σ.length := by
        have := tn.post.rel.len
        rwa [wipe_length, L2.wipe_length] at this
      refine tn.take g r (fun a ha => hSI a (hS a ha)) h0 hDS (by rw [hlen]; exact hl) hsl e1 fun σ' Ss' hw tn' => ⟨hw, ?_⟩
      exact hbody σ' s1 H' Ss' ys vs A ys1 s3 _ tn' e2 hle hw fun σ'' H5 Ss5 vs' A' hw' tn5 => ⟨σ'', Ss5, vs', A', hw', tn5⟩

/-! ### the innermost body: tests, the element -/
section
variable {G : Pg} {C : Nat → List T → CR}
def eltGo (G : Pg) (C : Nat → List T → CR) (cs : List E) (elt : E) : Sl → Rv (List (T × Bool)) := fun s3 => evc G C cs s3 fun s4 => (ev G C elt s4).bind fun y s5 => .ok [y] s5
theorem elt_ok {elt : E} {zs : List (T × Bool)} {s3 : Sl} (hD0 : H0 D = none) (h0 : ∀ a ∈ S0, ¬ Shut s2 Ss2 a ∧ H2 a ≠ none) (tn : Tn K ad τ0 H0 Ss0 s2 H2 Ss2 S0 D σ' s1 H Ss ys vs A) (e : ((ev G C elt s1).bind fun y s5 => .ok [y] s5) = .ok zs s3) (hl : (ys ++ zs).length ≤ LIM) {Nx : Hp → Prop}
    (nx : ∀ H5 Ss5 vs' A', Tn K ad τ0 H0 Ss0 s2 H2 Ss2 S0 D σ' s3 H5 Ss5 (ys ++ zs) vs' A' → Nx H5) :
    eR K ad xr W0 (ev G C elt) σ' H fun y H4 => ∃ acc, H4 D = some (.lst acc) ∧ acc.length < PySem.sizeLine ∧ Nx (upd H4 D (.lst (acc ++ [y]))) := by
  refine ⟨s1, Ss, tn.post.rel, ?_⟩
  cases h : ev G C elt s1 with
  | ok y s5 =>
    rw [h] at e
    simp only [Rv.bind, Rv.ok.injEq] at e
    obtain ⟨e1, e2⟩ := e
    subst e1 e2
    intro v H4 Ss4 S p w o
    obtain ⟨h1, h2⟩ := tn.more hD0 h0 p w o
    refine ⟨vs, h1, ?_, nx _ _ _ _ h2⟩
    have := tn.acc.val.length.1
    rw [List.length_append, List.length_singleton] at hl
    rw [← LIM_eq] at *
    omega
  | ex _ _ _ => rw [h] at e; cases e
  | bad => rw [h] at e; cases e
theorem body_ok {cs : List E} {elt : E} {zs : List (T × Bool)} {s3 : Sl} (hcs : cs.length ≤ 1) (hD0 : H0 D = none) (h0 : ∀ a ∈ S0, ¬ Shut s2 Ss2 a ∧ H2 a ≠ none) (tn : Tn K ad τ0 H0 Ss0 s2 H2 Ss2 S0 D σ' s1 H Ss ys vs A) (e : eltGo G C cs elt s1 = .ok zs s3) (hl : (ys ++ zs).length ≤ LIM) {Nx : Hp → Prop}
    (nx : ∀ H5 Ss5 vs' A', Tn K ad τ0 H0 Ss0 s2 H2 Ss2 S0 D σ' s3 H5 Ss5 (ys ++ zs) vs' A' → Nx H5) :
    ttR K ad xr G C cs σ' H fun b H3 => if b = true then eR K ad xr W0 (ev G C elt) σ' H3 (fun y H4 => ∃ acc, H4 D = some (.lst acc) ∧ acc.length < PySem.sizeLine ∧ Nx (upd H4 D (.lst (acc ++ [y])))) else Nx H3 := by
  unfold eltGo at e
  match cs, hcs with
  | [], _ =>
    rw [evc] at e
    simp only [ttR, L2.tYes, if_true]
    exact elt_ok hD0 h0 tn e hl nx
  | [c], _ =>
    rw [evc] at e
    refine ⟨s1, Ss, tn.post.rel, ?_⟩
    cases h : ev G C c s1 with
    | ok x s4 =>
      rw [h] at e
      simp only [Rv.bind] at e
      cases hk : x.1.tr with
      | none => rw [hk] at e; cases e
      | some k =>
        refine ⟨k, hk, fun H' Ss' p => ?_⟩
        have tn' := tn.after p
        cases k with
        | true =>
          rw [hk] at e
          simp only [evc] at e
          simp only [if_true]
          exact elt_ok hD0 h0 tn' e hl nx
        | false =>
          rw [hk] at e
          simp only [Rv.ok.injEq] at e
          obtain ⟨e1, e2⟩ := e
          subst e1 e2
          simp only [Bool.false_eq_true, if_false]
          rw [List.append_nil] at nx
          exact nx _ _ _ _ tn'
    | ex _ _ _ => rw [h] at e; cases e
    | bad => rw [h] at e; cases e
end
end
end M
end

section
set_option Elab.async false
set_option autoImplicit false
set_option linter.all false
set_option maxRecDepth 100000
set_option maxHeartbeats 2000000
/-! SoundL: comprehensions with one or two sources. -/
namespace M
open PySem (Addr Str PyData Operator CmpOp UnaryOp Value Expr Stmt Scope NameKind)
open L2 (V Hp HO SqT SqL Rd upd upd_same upd_ne St VK XK WX TE TT TA TG TGs TI It R2 OpR UnR CallR Dp DpAll rI0 rI Cx Room TruV PE PT PW PA PG PGs PI PTs Inv Vis Loc Gl Takes Sp FnOk Binds)
section
variable {K : PySem.W.Frag} {ad : Nat → Addr} {xr : Nat → List T → Value → Option Addr → Hp → Prop} {W : WX} {H0 H H1 H2 H' : Hp} {τ0 τ τ1 τ2 τ' : Sl} {σ σ' : St} {Ss0 Ss Ss1 Ss2 Ss' : Nat → List Addr} {v : V} {S : List Addr}
variable {s2 : Sl} {own : List Nat} {D : Addr} {τi s1 : Sl} {Ssi : Nat → List Addr} {ys : List (T × Bool)} {vs : List V} {A : List (List Addr)} {S0 : List Addr}
theorem wipe_twice (σ : St) (is : List Nat) : L2.wipe (L2.wipe σ is) is = L2.wipe σ is := wipe_eq (by rw [L2.wipe_length]) fun j hj => get_wipe σ is j hj
theorem LtD.refl (E : Addr → Prop) : LtD E τ H Ss τ H Ss := ⟨fun _ _ h _ => h, fun _ h => h, fun _ h => .inl h, fun _ h => .inl h, fun i t h a ha => .inl ⟨t, h, ha⟩⟩
/-- the first state -/
theorem Tn.start (is : List Nat) (p2 : Post K ad τ0 σ H0 Ss0 s2 H2 Ss2) (hD : H2 D = none) : Tn K ad τ0 H0 Ss0 s2 H2 Ss2 S0 D (L2.wipe σ is) (M.wipe s2 is) (upd H2 D (.lst [])) (wipeS Ss2 is) [] [] [] := by
  have g := Grow.new (o := .lst []) hD
  have p3 := Post.grow (K := K) (ad := ad) (σ := σ) p2.rel g
  have t : Tn K ad τ0 H0 Ss0 s2 H2 Ss2 S0 D σ s2 (upd H2 D (.lst [])) Ss2 [] [] [] := ⟨p2.trans p3, p3.ltD _, ⟨trivial, trivial, trivial⟩, fun p hp => by simp at hp, upd_same, (p2.rel.new hD).1, fun S hS => by cases hS⟩
  exact t.wipe (σ := σ) rfl
/-- the list as a value -/
theorem Tn.list {ys : List (T × Bool)} (x : Tn K ad τ0 H0 Ss0 s2 H2 Ss2 S0 D σ' τ H Ss ys vs A) : Val K ad τ H Ss (.lst (ys.map (·.1))) (T.lfL (ys.map (·.1)) || ys.all (·.2)) (.ref D) (D :: A.flatten) := by
  have nf : D ∉ A.flatten := fun hi => by
    obtain ⟨S, hS, hi⟩ := List.mem_flatten.mp hi
    exact x.nA S hS hi
  refine ⟨by rw [Rep.lst_iff]; exact ⟨D, vs, _, rfl, x.at_, rfl, x.acc.val.rep⟩, fun a ha => ?_, fun h => ?_⟩
  · rcases List.mem_cons.mp ha with e | e
    · subst e; exact fun ⟨j, _, hj⟩ => x.nD j hj
    · exact x.acc.val.free a e
  · rw [Bool.or_eq_true] at h
    rcases h with h | h
    · rw [x.acc.val.rep.lf h]
      exact ⟨by simp, fun a ha => by rw [List.mem_singleton] at ha; subst ha; exact x.nD⟩
    · obtain ⟨n1, n2⟩ := x.acc.val.mine x.acc.cross h
      refine ⟨List.nodup_cons.mpr ⟨nf, n1⟩, fun a ha => ?_⟩
      rcases List.mem_cons.mp ha with e | e
      · subst e; exact x.nD
      · exact n2 a e
theorem Tn.listOrg {ys : List (T × Bool)} (x : Tn K ad τ0 H0 Ss0 s2 H2 Ss2 S0 D σ' τ H Ss ys vs A) (hD : H0 D = none) : Org τ0 H0 Ss0 (T.lfL (ys.map (·.1)) || ys.all (·.2)) (D :: A.flatten) := fun a ha => by
  rcases List.mem_cons.mp ha with e | e
  · subst e; exact ⟨.inr hD, fun _ => .inr hD⟩
  · have h1 := OrgL.flat x.acc.val.length.2 x.acc.org a e
    refine ⟨h1.1, fun h => ?_⟩
    rw [Bool.or_eq_true] at h
    rcases h with h | h
    · rw [x.acc.val.rep.lf h] at e; cases e
    · exact h1.2 h
theorem LtD.unlk {lk : Option Nat} {E : Addr → Prop} (p : LtD E τ H Ss τ1 H1 Ss1) (h : ∀ i t, lk = some i → rd τ1 i = some (t, .lk) → ∀ a ∈ Ss1 i, Own τ Ss a ∨ H a = none) : LtD E τ H Ss (M.unlk τ1 lk) H1 Ss1 := by
  cases lk with
  | none => exact p
  | some i =>
    rcases unlk_cases τ1 i with e | ⟨t, e, e2⟩
    · rw [e]; exact p
    · rw [e2]
      have rdE : ∀ j, rd (put τ1 i t .ow) j = if j = i then some (t, .ow) else rd τ1 j := fun j => rd_put (rd_lt e)
      refine ⟨p.keep, p.there, fun a ⟨j, u, hu, ha⟩ => ?_, fun a ⟨j, ⟨u, w, hu, hw⟩, ha⟩ => ?_, fun j u hu a ha => ?_⟩
      · rw [rdE] at hu
        by_cases ej : j = i
        · subst ej; exact h j t rfl e a ha
        · rw [if_neg ej] at hu; exact p.own a ⟨j, u, hu, ha⟩
      · rw [rdE] at hu
        by_cases ej : j = i
        · subst ej; exact p.shut a ⟨j, ⟨t, .lk, e, rfl⟩, ha⟩
        · rw [if_neg ej] at hu; exact p.shut a ⟨j, ⟨u, w, hu, hw⟩, ha⟩
      · rw [rdE] at hu
        by_cases ej : j = i
        · subst ej; rw [if_pos rfl] at hu; cases hu
        · rw [if_neg ej] at hu; exact p.lk j u hu a ha
theorem ValL.unlk {lk : Option Nat} : ∀ {ys : List (T × Bool)} {vs : List V} {A : List (List Addr)}, ValL K ad τ H Ss ys vs A → ValL K ad (M.unlk τ lk) H Ss ys vs A
  | [], [], [], _ => trivial
  | x :: xs, v :: vs, S :: A, h => ⟨h.1.unlk, ValL.unlk h.2⟩
/-- what is hidden, and the items: neither changed nor new -/
theorem hid_ok {SI : List Addr} (R : Rel K ad s2 σ H2 Ss2) (hm : mayHide s2 own = true) (h : ∀ a ∈ SI, ¬ Shut s2 Ss2 a ∧ H2 a ≠ none) : ∀ a ∈ SI ++ own.flatMap Ss2, ¬ Shut s2 Ss2 a ∧ H2 a ≠ none := fun a ha => by
  rcases List.mem_append.mp ha with z | z
  · exact h a z
  · obtain ⟨j, hj, hja⟩ := List.mem_flatMap.mp z
    refine ⟨R.notShut (mayHide_not hm hj) a hja, ?_⟩
    obtain ⟨xs, e⟩ := R.there hja
    rw [e]; simp
theorem lcOut_lim {lk : Option Nat} {all : List (T × Bool)} {sE : Sl} {Q : VK} (q : Out K ad xr W τ σ H Ss Q (lcOut s2 own lk (.ok all sE))) : all.length ≤ LIM := by
  by_cases h : all.length ≤ LIM
  · exact h
  · unfold lcOut at q
    simp only [h, if_false] at q
    exact q.elim
/-- the comprehension's end -/
theorem lc_end {lk : Option Nat} {all : List (T × Bool)} {sE : Sl} {SI : List Addr} {Q : VK} (p2 : Post K ad τ σ H Ss s2 H2 Ss2) (hm : mayHide s2 own = true) (hD : H2 D = none)
    (hlk : ∀ i, lk = some i → ∃ t, rd s2 i = some (t, .lk) ∧ (∀ a ∈ Ss2 i, Own τ Ss a ∨ H a = none))
    (x : Tn K ad τ H Ss s2 H2 Ss2 (SI ++ own.flatMap Ss2) D (L2.wipe σ own) (M.wipe sE own) H' Ss' all vs A)
    (q : Out K ad xr W τ σ H Ss Q (lcOut s2 own lk (.ok all sE))) (hl : all.length ≤ LIM) : Q (.ref D) H' := by
  unfold lcOut at q
  simp only [hl, if_true] at q
  have hD0 := p2.back hD
  have len : s2.length = sE.length := by
    have h1 := x.post.rel.len
    rw [wipe_length, L2.wipe_length] at h1
    rw [p2.rel.len, h1]
  have pb := p2.back_ own hm x.post (x.lt.lt fun a e => by subst e; exact hD)
  have up : ∀ a, Own s2 Ss2 a ∨ H2 a = none → Own τ Ss a ∨ H a = none := fun a h => h.elim (p2.own a) fun z => .inr (p2.back z)
  have pu := Post.unlk (lk := lk) pb fun i t hi ht a ha => by
    obtain ⟨t0, h1, h2⟩ := hlk i hi
    have ni : i ∉ own := fun z => mayHide_not hm z ⟨t0, .lk, h1, rfl⟩
    rw [rd_back s2 sE len own, if_neg ni] at ht
    have ha' : a ∈ Ss' i := by simpa [backS, ni] using ha
    rcases x.lt.lk i t (by rw [rd_wipe, if_neg ni]; exact ht) a ha' with ⟨_, _, z⟩ | z | z
    · exact h2 a z
    · exact up a (.inl z)
    · exact up a (.inr z)
  have vv : Val K ad _ H' _ _ _ _ _ := Val.unlk (lk := lk) (Val.back_ own p2.rel hm len x.list fun h a ha j hj hja => by
    rcases List.mem_cons.mp ha with e | e
    · subst e; exact (p2.rel.new hD).1 j hja
    · rw [Bool.or_eq_true] at h
      rcases h with h | h
      · rw [x.acc.val.rep.lf h] at e; cases e
      · obtain ⟨S', hS, ha'⟩ := List.mem_flatten.mp e
        obtain ⟨k, hk, ek⟩ := List.getElem_of_mem hS
        have hl2 := x.acc.val.length.2
        have hka : k < all.length := by omega
        have hm' : (all[k], S') ∈ all.zip A := by
          rw [← ek]
          have : (all.zip A)[k]'(by simp; omega) = (all[k], A[k]) := by simp
          rw [← this]; exact List.getElem_mem _
        exact x.orgX _ hm' (List.all_eq_true.mp h _ (List.getElem_mem _)) a ha' (List.mem_append_right _ (List.mem_flatMap.mpr ⟨j, hj, hja⟩)))
  exact q.ok pu vv (x.listOrg hD0)
section
variable {G : Pg} {C : Nat → List T → CR}
theorem i_lc {t : Tg} {it : E} {cs : List E} {elt : E} {Q : VK} (hcs : cs.length ≤ 1) (hsl : ∀ i ∈ t.slots, i ∈ own) (hl : ∀ i ∈ t.slots, i < σ.length) (h : eR K ad xr W (ev G C (.lc t it cs elt own)) σ H Q) :
    L2.tLc (iR K ad xr W fun s => srcE (ag it (ev G C it s) s)) (gTg K t) (ttR K ad xr G C cs) (eR K ad xr W0 (ev G C elt)) own σ H Q := by
  obtain ⟨τ, Ss, R, q⟩ := h
  refine ⟨τ, Ss, R, ?_⟩
  rw [ev] at q
  simp only [srcE]
  cases e : ag it (ev G C it τ) τ with
  | bad => rw [e] at q; exact q
  | ex c fs τ' => rw [e] at q; exact q
  | ok a s1 =>
    rw [e] at q
    replace q : Out K ad xr W τ σ H Ss Q (match src a s1 with | none => .bad | some (xs, s2, lk) => if mayHide s2 own then lcOut s2 own lk (lcGo own t (eltGo G C cs elt) xs (M.wipe s2 own)) else .bad) := q
    simp only [Rv.bind]
    cases e2 : src a s1 with
    | none => rw [e2] at q; exact q
    | some z =>
      obtain ⟨xs, s2, lk⟩ := z
      rw [e2] at q
      simp only at q ⊢
      intro J H2 Ss2 S0 Hok p2 wk ho stay hS0 hlk D hD
      split at q
      case isFalse => exact q.elim
      rename_i hm
      cases e3 : lcGo own t (eltGo G C cs elt) xs (M.wipe s2 own) with
      | bad => rw [e3] at q; exact q.elim
      | ex c fs s => rw [e3] at q; exact q.elim
      | ok all sE =>
        have q' : Out K ad xr W τ σ H Ss Q (lcOut s2 own lk (.ok all sE)) := by rw [← e3]; exact q
        have hlim := lcOut_lim q'
        have hD0 := p2.back hD
        have h0 := hid_ok (SI := S0) p2.rel hm fun a ha => ⟨(hS0 a ha).1, (hS0 a ha).2.2⟩
        have hDS : D ∉ S0 ++ own.flatMap Ss2 := fun z => (h0 D z).2 hD
        refine ⟨fun i m H => m = xs.length - i ∧ i ≤ xs.length ∧ ∃ τi Ssi ys vs A zs, Tn K ad τ _ Ss s2 H2 Ss2 (S0 ++ own.flatMap Ss2) D (L2.wipe σ own) (M.wipe τi own) H Ssi ys vs A ∧ lcGo own t (eltGo G C cs elt) (xs.drop i) τi = .ok zs sE ∧ ys ++ zs = all, ⟨xs.length, by omega, Nat.zero_le _, M.wipe s2 own, _, [], [], [], all, (Tn.start own p2 hD).wipe (wipe_twice σ own), by rw [List.drop_zero]; exact e3, rfl⟩, fun i m Hi w => ?_⟩
        refine turns wk (fun H' k => stay _ H' (fun a e => by subst e; exact ⟨(p2.rel.new hD).1, .inl hD⟩) k) (fun a ha => ⟨List.mem_append_left _ ha, (hS0 a ha).2.1⟩) h0 hDS hl hsl hlim (B := fun σ2 H2 Nx => ttR K ad xr G C cs σ2 H2 fun b H3 => if b = true then eR K ad xr W0 (ev G C elt) σ2 H3 (fun y H4 => ∃ acc, H4 D = some (.lst acc) ∧ acc.length < PySem.sizeLine ∧ Nx (upd H4 D (.lst (acc ++ [y])))) else Nx H3)
          (fun σ' s1 H' Ss' ys vs A zs s3 Nx tn eb hle hw nx => body_ok hcs hD0 h0 tn eb hle fun H5 Ss5 vs' A' tn' => nx _ _ _ _ _ hw tn')
          (fun τe He Sse vs A tn et => ?_) w
        subst et
        exact lc_end p2 hm hD hlk tn q' hlim
/-- the body of an outer turn -/
def lc2Go (G : Pg) (C : Nat → List T → CR) (t1 : Tg) (it1 : E) (cs1 : List E) (elt : E) (own1 : List Nat) : Sl → Rv (List (T × Bool)) := fun s3 => (ag it1 (ev G C it1 s3) s3).bind fun a1 s4 => match src a1 s4 with
  | none => .bad
  | some (ys, s5, lk1) => match lcGo own1 t1 (eltGo G C cs1 elt) ys s5 with
    | .ok zs s9 => .ok zs (M.unlk (M.wipe s9 own1) lk1)
    | _ => .bad
theorem body2_ok {t1 : Tg} {it1 : E} {cs1 : List E} {elt : E} {own1 : List Nat} {zs : List (T × Bool)} {s3 : Sl} (hcs : cs1.length ≤ 1) (hsl : ∀ i ∈ t1.slots, i ∈ own1) (hsub : ∀ i ∈ own1, i ∈ own) (hl1 : ∀ i ∈ t1.slots, i < σ'.length)
    (hD0 : H0 D = none) (h0 : ∀ a ∈ S0, ¬ Shut s2 Ss2 a ∧ H2 a ≠ none) (hDS : D ∉ S0) (tn : Tn K ad τ0 H0 Ss0 s2 H2 Ss2 S0 D σ' s1 H Ss ys vs A) (e : lc2Go G C t1 it1 cs1 elt own1 s1 = .ok zs s3) (hl : (ys ++ zs).length ≤ LIM) (hw : L2.wipe σ' own = L2.wipe σ own) {Nx : Hp → Prop}
    (nx : ∀ σ'' H5 Ss5 vs' A', L2.wipe σ'' own = L2.wipe σ own → Tn K ad τ0 H0 Ss0 s2 H2 Ss2 S0 D σ'' s3 H5 Ss5 (ys ++ zs) vs' A' → Nx H5) :
    iR K ad xr W0 (fun s => srcE (ag it1 (ev G C it1 s) s)) σ' H fun J1 H4 => ∃ W1 : Nat → Nat → Hp → Prop, (∃ m, W1 0 m H4) ∧ ∀ j k H, W1 j k H →
      (J1.stop j H ∧ Nx H) ∨ (J1.go j H ∧ ∃ Nx1 : Hp → Prop, (∀ H', Nx1 H' → ∃ k', k' < k ∧ W1 (j + 1) k' H') ∧ ∀ x H', J1.yld j H x H' → gTg K t1 x (L2.wipe σ' own1) H' fun σ3 H5 => L2.wipe σ3 own1 = L2.wipe σ' own1 ∧ ttR K ad xr G C cs1 σ3 H5 fun b H6 =>
        if b = true then eR K ad xr W0 (ev G C elt) σ3 H6 (fun y H7 => ∃ acc, H7 D = some (.lst acc) ∧ acc.length < PySem.sizeLine ∧ Nx1 (upd H7 D (.lst (acc ++ [y])))) else Nx1 H6) := by
  refine ⟨s1, Ss, tn.post.rel, ?_⟩
  unfold lc2Go at e
  simp only [srcE]
  cases ea : ag it1 (ev G C it1 s1) s1 with
  | bad => rw [ea] at e; cases e
  | ex c fs τ' => rw [ea] at e; cases e
  | ok a s4 =>
    rw [ea] at e
    simp only [Rv.bind] at e ⊢
    cases e2 : src a s4 with
    | none => rw [e2] at e; cases e
    | some z =>
      obtain ⟨xs, s5, lk⟩ := z
      rw [e2] at e
      simp only at e ⊢
      intro J H4 Ss4 S1 Hok p wk ho stay hS1 hlk
      cases e3 : lcGo own1 t1 (eltGo G C cs1 elt) xs s5 with
      | bad => rw [e3] at e; cases e
      | ex c fs s => rw [e3] at e; cases e
      | ok all s9 =>
        rw [e3] at e
        simp only [Rv.ok.injEq] at e
        obtain ⟨e4, e5⟩ := e
        subst e4 e5
        have ta := tn.after p
        have there : ∀ a ∈ S0 ++ S1, ¬ Shut s5 Ss4 a ∧ H4 a ≠ none := fun a ha => by
          rcases List.mem_append.mp ha with z | z
          · exact ⟨fun q => (ta.lt.shut a q).elim (h0 a z).1 (h0 a z).2, ta.lt.there a (h0 a z).2⟩
          · exact ⟨(hS1 a z).1, (hS1 a z).2.2⟩
        have nD1 : D ∉ S0 ++ S1 := fun hd => by
          rcases List.mem_append.mp hd with z | z
          · exact hDS z
          · rcases (hS1 D z).2.1 with q | q
            · exact tn.nD _ q.slot.choose_spec
            · rw [tn.at_] at q; cases q
        have tin : Tn K ad τ0 H0 Ss0 s5 H4 Ss4 (S0 ++ S1) D σ' s5 H4 Ss4 ys vs A := ⟨ta.post, LtD.refl _, ta.acc, (fun q hq hq2 a ha hs => by
          rcases List.mem_append.mp hs with z | z
          · exact tn.orgX q hq hq2 a ha z
          · obtain ⟨w, vw⟩ := tn.acc.val.mem q hq
            rcases (hS1 a z).2.1 with y | y
            · exact (vw.mine hq2).2 a ha _ y.slot.choose_spec
            · obtain ⟨ws, ew⟩ := vw.rep.lists a ha
              rw [ew] at y; cases y), ta.at_, ta.nD, ta.nA⟩
        refine ⟨fun i m H => m = xs.length - i ∧ i ≤ xs.length ∧ ∃ τi Ssi ys' vs A zs, Tn K ad τ0 H0 Ss0 s5 H4 Ss4 (S0 ++ S1) D (L2.wipe σ' own1) (M.wipe τi own1) H Ssi ys' vs A ∧ lcGo own1 t1 (eltGo G C cs1 elt) (xs.drop i) τi = .ok zs s9 ∧ ys' ++ zs = ys ++ all, ⟨xs.length, by omega, Nat.zero_le _, s5, _, ys, vs, A, all, tin.wipe rfl, by rw [List.drop_zero]; exact e3, rfl⟩, fun i m Hi w => ?_⟩
        refine turns wk (fun H' k => stay _ H' (fun a e => by subst e; exact ⟨ta.nD, .inr ⟨by rw [tn.at_]; simp, fun q => tn.nD _ q.slot.choose_spec, _, ta.at_⟩⟩) k) (fun a ha => ⟨List.mem_append_right _ ha, (hS1 a ha).2.1.elim (tn.post.src a) fun z => .inr (tn.post.back z)⟩) there nD1 hl1 hsl hl (B := fun σ2 H2 Nx => ttR K ad xr G C cs1 σ2 H2 fun b H3 => if b = true then eR K ad xr W0 (ev G C elt) σ2 H3 (fun y H4 => ∃ acc, H4 D = some (.lst acc) ∧ acc.length < PySem.sizeLine ∧ Nx (upd H4 D (.lst (acc ++ [y])))) else Nx H3)
          (fun σ3 s1 H' Ss' ys vs A zs s3 Nx tn eb hle hw nx => body_ok hcs hD0 there tn eb hle fun H5 Ss5 vs' A' tn' => nx _ _ _ _ _ hw tn')
          (fun τe He Sse vs A te et => ?_) w
        subst et
        have lt3 : LtD (fun a => a = D) s2 H2 Ss2 (M.wipe τe own1) He Sse := ta.lt.trans te.lt
        have up : ∀ a, (Own s1 Ss a ∨ H a = none) → Own s2 Ss2 a ∨ H2 a = none := fun a h => h.elim (tn.lt.own a) fun z => .inr (tn.lt.back z)
        have lks : ∀ i t, lk = some i → rd (M.wipe τe own1) i = some (t, .lk) → ∀ a ∈ Sse i, Own s1 Ss a ∨ H a = none := fun i t hi ht a ha => by
          obtain ⟨t0, h1, h2⟩ := hlk i hi
          rcases te.lt.lk i t ht a ha with ⟨_, _, z⟩ | z | z
          · exact h2 a z
          · exact p.own a z
          · exact .inr (p.back z)
        refine nx (L2.wipe σ' own1) He Sse vs A ?_ ⟨Post.unlk te.post fun i t hi ht a ha => (lks i t hi ht a ha).elim (tn.post.own a) fun z => .inr (tn.post.back z), lt3.unlk fun i t hi ht a ha => up a (lks i t hi ht a ha), ⟨te.acc.val.unlk, te.acc.org, te.acc.cross⟩, fun q hq hq2 a ha hs => te.orgX q hq hq2 a ha (List.mem_append_left _ hs), te.at_, te.nD, te.nA⟩
        rw [← hw]
        exact wipe_eq (by rw [L2.wipe_length]) fun j hj => get_wipe σ' own1 j fun z => hj (hsub j z)
theorem i_lc2 {t t1 : Tg} {it it1 : E} {cs1 : List E} {elt : E} {own1 : List Nat} {Q : VK} (hcs : cs1.length ≤ 1) (hsl : ∀ i ∈ t.slots, i ∈ own) (hl : ∀ i ∈ t.slots, i < σ.length) (hsl1 : ∀ i ∈ t1.slots, i ∈ own1) (hl1 : ∀ i ∈ t1.slots, i < σ.length) (hsub : ∀ i ∈ own1, i ∈ own)
    (h : eR K ad xr W (ev G C (.lc2 t it t1 it1 cs1 elt own own1)) σ H Q) :
    L2.tLc2 (iR K ad xr W fun s => srcE (ag it (ev G C it s) s)) (gTg K t) (ttR K ad xr G C []) (iR K ad xr W0 fun s => srcE (ag it1 (ev G C it1 s) s)) (gTg K t1) (ttR K ad xr G C cs1) (eR K ad xr W0 (ev G C elt)) own own1 σ H Q := by
  obtain ⟨τ, Ss, R, q⟩ := h
  refine ⟨τ, Ss, R, ?_⟩
  rw [ev] at q
  simp only [srcE]
  cases e : ag it (ev G C it τ) τ with
  | bad => rw [e] at q; exact q
  | ex c fs τ' => rw [e] at q; exact q
  | ok a s1 =>
    rw [e] at q
    replace q : Out K ad xr W τ σ H Ss Q (match src a s1 with | none => .bad | some (xs, s2, lk) => if mayHide s2 own then lcOut s2 own lk (lcGo own t (lc2Go G C t1 it1 cs1 elt own1) xs (M.wipe s2 own)) else .bad) := q
    simp only [Rv.bind]
    cases e2 : src a s1 with
    | none => rw [e2] at q; exact q
    | some z =>
      obtain ⟨xs, s2, lk⟩ := z
      rw [e2] at q
      simp only at q ⊢
      intro J H2 Ss2 S0 Hok p2 wk ho stay hS0 hlk D hD
      split at q
      case isFalse => exact q.elim
      rename_i hm
      cases e3 : lcGo own t (lc2Go G C t1 it1 cs1 elt own1) xs (M.wipe s2 own) with
      | bad => rw [e3] at q; exact q.elim
      | ex c fs s => rw [e3] at q; exact q.elim
      | ok all sE =>
        rw [e3] at q
        have hlim := lcOut_lim q
        have hD0 := p2.back hD
        have h0 := hid_ok (SI := S0) p2.rel hm fun a ha => ⟨(hS0 a ha).1, (hS0 a ha).2.2⟩
        have hDS : D ∉ S0 ++ own.flatMap Ss2 := fun z => (h0 D z).2 hD
        refine ⟨fun i m H => m = xs.length - i ∧ i ≤ xs.length ∧ ∃ τi Ssi ys vs A zs, Tn K ad τ _ Ss s2 H2 Ss2 (S0 ++ own.flatMap Ss2) D (L2.wipe σ own) (M.wipe τi own) H Ssi ys vs A ∧ lcGo own t (lc2Go G C t1 it1 cs1 elt own1) (xs.drop i) τi = .ok zs sE ∧ ys ++ zs = all, ⟨xs.length, by omega, Nat.zero_le _, M.wipe s2 own, _, [], [], [], all, (Tn.start own p2 hD).wipe (wipe_twice σ own), by rw [List.drop_zero]; exact e3, rfl⟩, fun i m Hi w => ?_⟩
        refine turns wk (fun H' k => stay _ H' (fun a e => by subst e; exact ⟨(p2.rel.new hD).1, .inl hD⟩) k) (fun a ha => ⟨List.mem_append_left _ ha, (hS0 a ha).2.1⟩) h0 hDS hl hsl hlim (B := fun σ2 H2 Nx => ttR K ad xr G C [] σ2 H2 fun b H3 => if b = true then (iR K ad xr W0 (fun s => srcE (ag it1 (ev G C it1 s) s)) σ2 H3 fun J1 H4 => ∃ W1 : Nat → Nat → Hp → Prop, (∃ m, W1 0 m H4) ∧ ∀ j k H, W1 j k H →
              (J1.stop j H ∧ Nx H) ∨ (J1.go j H ∧ ∃ Nx1 : Hp → Prop, (∀ H', Nx1 H' → ∃ k', k' < k ∧ W1 (j + 1) k' H') ∧ ∀ x H', J1.yld j H x H' → gTg K t1 x (L2.wipe σ2 own1) H' fun σ3 H5 => L2.wipe σ3 own1 = L2.wipe σ2 own1 ∧ ttR K ad xr G C cs1 σ3 H5 fun b H6 =>
                if b = true then eR K ad xr W0 (ev G C elt) σ3 H6 (fun y H7 => ∃ acc, H7 D = some (.lst acc) ∧ acc.length < PySem.sizeLine ∧ Nx1 (upd H7 D (.lst (acc ++ [y])))) else Nx1 H6)) else Nx H3)
          (fun σ' s1 H' Ss' ys vs A zs s3 Nx tn eb hle hw nx => ?_)
          (fun τe He Sse vs A tn et => ?_) w
        · simp only [ttR, L2.tYes, if_true]
          have hlen : σ'.length = σ.length := by rw [← L2.wipe_length σ' own, hw, L2.wipe_length]
          exact body2_ok hcs hsl1 hsub (by rw [hlen]; exact hl1) hD0 h0 hDS tn eb hle hw nx
        · subst et
          exact lc_end p2 hm hD hlk tn q hlim
end
end
end M
end

section
set_option Elab.async false
set_option autoImplicit false
set_option linter.all false
set_option maxRecDepth 100000
set_option maxHeartbeats 2000000
/-! SoundM: statements. -/
namespace M
open PySem (Addr Str PyData Operator CmpOp UnaryOp Value Expr Stmt Scope NameKind)
open L2 (V Hp HO SqT SqL Rd upd upd_same upd_ne St VK XK WX TE TT TA TG TGs TI TS It R2 OpR UnR CallR Dp DpAll rI0 rI Cx Room TruV PE PT PW PA PG PGs PI PTs PS PSs Ends Inv Vis Loc Gl Takes Sp FnOk Binds)

/-- the slots outside A stay -/
def Fr (A : List Nat) (σ σ' : St) : Prop := σ'.length = σ.length ∧ ∀ j, j ∉ A → σ'[j]? = σ[j]?
theorem Fr.refl (A : List Nat) (σ : St) : Fr A σ σ := ⟨rfl, fun _ _ => rfl⟩
theorem Fr.trans {A : List Nat} {σ σ1 σ2 : St} (a : Fr A σ σ1) (b : Fr A σ1 σ2) : Fr A σ σ2 := ⟨b.1.trans a.1, fun j h => (b.2 j h).trans (a.2 j h)⟩
def OutF (K : PySem.W.Frag) (ad : Nat → Addr) (xr : Nat → List T → Value → Option Addr → Hp → Prop) (W : WX) (A : List Nat) (τ : Sl) (σ : St) (H : Hp) (Ss : Nat → List Addr) (D : Ends) : Fl → Prop
  | .nx τ' => ∀ σ' H' Ss', Post K ad τ σ' H Ss τ' H' Ss' → Fr A σ σ' → D.nx σ' H'
  | .rt t o τ' => ∀ v σ' H' Ss' S, Post K ad τ σ' H Ss τ' H' Ss' → Fr A σ σ' → Val K ad τ' H' Ss' t o v S → Org τ H Ss o S → D.rt v H'
  | .ex c fs τ' => ∀ cls d σ' H' Ss', Post K ad τ σ' H Ss τ' H' Ss' → Fr A σ σ' → xr c fs cls d H' → W cls d σ' H'
  | .bad => False
/-- a reading of statements; A: the slots that they may set -/
def sR (K : PySem.W.Frag) (ad : Nat → Addr) (xr : Nat → List T → Value → Option Addr → Hp → Prop) (W : WX) (A : List Nat) (f : Sl → Fl) : TS := fun D σ H =>
  ∃ τ Ss, Rel K ad τ σ H Ss ∧ OutF K ad xr W A τ σ H Ss D (f τ)

section
variable {X : Cx} {st : Stmt} {sts : List Stmt} {t t' : TS}
theorem PS.imp (h : PS X st t) (i : ∀ D σ H, σ.length = X.N.length → t' D σ H → t D σ H) : PS X st t' := ⟨fun pins s σ H D I q => h.run pins s σ H D I (i D σ H I.len q)⟩
theorem PSs.imp (h : PSs X sts t) (i : ∀ D σ H, σ.length = X.N.length → t' D σ H → t D σ H) : PSs X sts t' := ⟨fun pins s σ H D I q => h.run pins s σ H D I (i D σ H I.len q)⟩
theorem PE.impL {e : Expr} {t t' : TE} (h : PE X e t) (i : ∀ σ H Q, σ.length = X.N.length → t' σ H Q → t σ H Q) : PE X e t' := ⟨fun pins s σ H Q I q => h.run pins s σ H Q I (i σ H Q I.len q)⟩
end

section
variable {K : PySem.W.Frag} {ad : Nat → Addr} {xr : Nat → List T → Value → Option Addr → Hp → Prop} {W : WX} {H0 H H1 H2 H' : Hp} {τ0 τ τ1 τ2 τ' : Sl} {σ σ' σ1 : St} {Ss0 Ss Ss1 Ss2 Ss' : Nat → List Addr} {v : V} {S : List Addr} {A : List Nat} {D D' : Ends}
theorem OutF.step {f : Rv (T × Bool)} {g : T × Bool → Sl → Fl} (h : OutF K ad xr W A τ σ H Ss D (f.fl g)) {Q' : VK}
    (k : ∀ x τ2 v H2 Ss2 S, f = .ok x τ2 → Post K ad τ σ H Ss τ2 H2 Ss2 → Val K ad τ2 H2 Ss2 x.1 x.2 v S → Org τ H Ss x.2 S → OutF K ad xr W A τ σ H Ss D (g x τ2) → Q' v H2) : Out K ad xr W τ σ H Ss Q' f := by
  cases f with
  | ok x τ2 => exact fun v H2 Ss2 S p' v' o' => k x τ2 v H2 Ss2 S rfl p' v' o' h
  | ex c fs τ' => exact fun cls d H' Ss' p' x' => h cls d σ H' Ss' p' (Fr.refl A σ) x'
  | bad => exact h
theorem OutF.stepL {f : Rv (List (T × Bool))} {g : List (T × Bool) → Sl → Fl} (h : OutF K ad xr W A τ σ H Ss D (f.fl g)) {Q' : List V → Hp → Prop}
    (k : ∀ xs τ2 vs H2 Ss2 Sl, f = .ok xs τ2 → Post K ad τ σ H Ss τ2 H2 Ss2 → ValL K ad τ2 H2 Ss2 xs vs Sl → OrgL τ H Ss xs Sl → Cross xs Sl → OutF K ad xr W A τ σ H Ss D (g xs τ2) → Q' vs H2) : OutL K ad xr W τ σ H Ss Q' f := by
  cases f with
  | ok x τ2 => exact fun vs H2 Ss2 Sl p' v' o' c' => k x τ2 vs H2 Ss2 Sl rfl p' v' o' c' h
  | ex c fs τ' => exact fun cls d H' Ss' p' x' => h cls d σ H' Ss' p' (Fr.refl A σ) x'
  | bad => exact h
/-- one statement, then the rest -/
theorem OutF.bind {r : Fl} {k : Sl → Fl} (h : OutF K ad xr W A τ σ H Ss D (r.seq k)) (p : Post K ad τ σ1 H Ss τ1 H1 Ss1) (fr : Fr A σ σ1) (hrt : D'.rt = D.rt)
    (hn : ∀ τ2 σ2 H2 Ss2, r = .nx τ2 → Post K ad τ1 σ2 H1 Ss1 τ2 H2 Ss2 → Fr A σ1 σ2 → OutF K ad xr W A τ σ H Ss D (k τ2) → D'.nx σ2 H2) : OutF K ad xr W A τ1 σ1 H1 Ss1 D' r := by
  cases r with
  | nx τ2 => exact fun σ2 H2 Ss2 p' fr' => hn τ2 σ2 H2 Ss2 rfl p' fr' h
  | rt t o τ2 =>
    intro v σ2 H2 Ss2 S p' fr' w o
    rw [hrt]
    exact h v σ2 H2 Ss2 S (p.trans p') (fr.trans fr') w (o.before p)
  | ex c fs τ2 => exact fun cls d σ2 H2 Ss2 p' fr' x => h cls d σ2 H2 Ss2 (p.trans p') (fr.trans fr') x
  | bad => exact h
theorem OutF.later {r : Fl} (h : OutF K ad xr W A τ σ H Ss D r) (p : Post K ad τ σ1 H Ss τ1 H1 Ss1) (fr : Fr A σ σ1) : OutF K ad xr W A τ1 σ1 H1 Ss1 D r := by
  cases r with
  | nx τ2 => exact fun σ2 H2 Ss2 p' fr' => h σ2 H2 Ss2 (p.trans p') (fr.trans fr')
  | rt t o τ2 => exact fun v σ2 H2 Ss2 S p' fr' w o => h v σ2 H2 Ss2 S (p.trans p') (fr.trans fr') w (o.before p)
  | ex c fs τ2 => exact fun cls d σ2 H2 Ss2 p' fr' x => h cls d σ2 H2 Ss2 (p.trans p') (fr.trans fr') x
  | bad => exact h
theorem fr_set {i : Nat} (hi : i ∈ A) : Fr A σ (σ.set i (some v)) := ⟨List.length_set .., fun j hj => by
  rw [List.getElem?_set_ne]; exact fun e => hj (e ▸ hi)⟩
end

section
variable {X : Cx} {ad : Nat → Addr} {xr : Nat → List T → Value → Option Addr → Hp → Prop} {W : WX} {A : List Nat} {G : Pg} {C : Nat → List T → CR} {st : Stmt} {sts : List Stmt} {pos : PySem.Pos} {e : Expr} {ce : E} {i : Nat}
theorem x_nil : PSs X [] (sR X.K ad xr W A (exs G C [])) := PSs.imp L2.pss_nil fun D σ H _ ⟨τ, Ss, R, q⟩ => by
  rw [exs] at q
  exact q σ H Ss (Post.refl R) (Fr.refl A σ)
theorem x_cons {c : S} {cs : List S} (h1 : PS X st (sR X.K ad xr W A (ex1 G C c))) (h2 : PSs X sts (sR X.K ad xr W A (exs G C cs))) : PSs X (st :: sts) (sR X.K ad xr W A (exs G C (c :: cs))) :=
  PSs.imp (L2.pss_cons h1 h2) fun D σ H _ ⟨τ, Ss, R, q⟩ => by
    rw [exs] at q
    refine ⟨τ, Ss, R, OutF.bind (k := fun s1 => exs G C cs s1) q (Post.refl R) (Fr.refl A σ) rfl fun τ2 σ2 H2 Ss2 e p fr q2 => ?_⟩
    exact ⟨τ2, Ss2, p.rel, q2.later p fr⟩
theorem x_pass : PS X (.Pass pos) (sR X.K ad xr W A (ex1 G C .pass)) := PS.imp L2.ps_pass fun D σ H _ ⟨τ, Ss, R, q⟩ => by
  rw [ex1] at q
  exact q σ H Ss (Post.refl R) (Fr.refl A σ)
theorem x_doc {x j pos'} : PS X (.Expr (.Constant (.str x) j pos) pos') (sR X.K ad xr W A (ex1 G C .pass)) := PS.imp L2.ps_doc fun D σ H _ ⟨τ, Ss, R, q⟩ => by
  rw [ex1] at q
  exact q σ H Ss (Post.refl R) (Fr.refl A σ)
/-- a name takes a value; te: the value's own reading -/
theorem x_set {te : TE} (hA : i ∈ A) (hi : i < X.N.length) (h : PS X st (L2.tAsg te (L2.gName i))) (ht : ∀ σ H Q, σ.length = X.N.length → eR X.K ad xr W (ev G C ce) σ H Q → te σ H Q) : PS X st (sR X.K ad xr W A (ex1 G C (.set i ce))) :=
  PS.imp h fun D σ H hl ⟨τ, Ss, R, q⟩ => by
    rw [ex1] at q
    refine ht σ H _ hl ⟨τ, Ss, R, q.step fun x τ2 v H2 Ss2 S _ p w o q2 => ?_⟩
    exact q2 _ H2 _ (p.put (w := .sh) w o (by rw [p.rel.len, hl]; exact hi) (.inl rfl)) (fr_set hA)
theorem x_own {te : TE} (hA : i ∈ A) (hi : i < X.N.length) (h : PS X st (L2.tAsg te (L2.gName i))) (ht : ∀ σ H Q, σ.length = X.N.length → eR X.K ad xr W (ev G C ce) σ H Q → te σ H Q) : PS X st (sR X.K ad xr W A (ex1 G C (.own i ce))) :=
  PS.imp h fun D σ H hl ⟨τ, Ss, R, q⟩ => by
    rw [ex1] at q
    refine ht σ H _ hl ⟨τ, Ss, R, q.step fun x τ2 v H2 Ss2 S _ p w o q2 => ?_⟩
    cases hx : x.2 with
    | true =>
      rw [hx] at q2 w o
      exact q2 _ H2 _ (p.put (w := .ow) w o (by rw [p.rel.len, hl]; exact hi) (.inr ⟨rfl, rfl⟩)) (fr_set hA)
    | false => rw [hx] at q2; exact q2.elim
theorem x_drop (h : PS X st (L2.tDrop (eR X.K ad xr W (ev G C ce)))) : PS X st (sR X.K ad xr W A (ex1 G C (.drop ce))) :=
  PS.imp h fun D σ H hl ⟨τ, Ss, R, q⟩ => by
    rw [ex1] at q
    refine ⟨τ, Ss, R, q.step fun x τ2 v H2 Ss2 S _ p w o q2 => ?_⟩
    exact q2 σ H2 Ss2 p (Fr.refl A σ)
theorem x_ret (h : PE X e (eR X.K ad xr W (ev G C ce))) : PS X (.Return (some e) pos) (sR X.K ad xr W A (ex1 G C (.ret ce))) :=
  PS.imp (L2.ps_ret h) fun D σ H hl ⟨τ, Ss, R, q⟩ => by
    rw [ex1] at q
    refine ⟨τ, Ss, R, q.step fun x τ2 v H2 Ss2 S _ p w o q2 => ?_⟩
    exact q2 v σ H2 Ss2 S p (Fr.refl A σ) w o
theorem x_retN : PS X (.Return none pos) (sR X.K ad xr W A (ex1 G C (.ret (.con .non)))) :=
  PS.imp L2.ps_retN fun D σ H hl ⟨τ, Ss, R, q⟩ => by
    rw [ex1, ev] at q
    exact q .non σ H Ss [] (Post.refl R) (Fr.refl A σ) (Val.plain (by rw [Rep]; exact ⟨rfl, rfl⟩)) Org.nil
theorem x_if {c : Expr} {cc : E} {a b : List Stmt} {ca cb : List S} (hc : PT X c (tR X.K ad xr W (ev G C cc))) (ha : PSs X a (sR X.K ad xr W A (exs G C ca))) (hb : PSs X b (sR X.K ad xr W A (exs G C cb))) : PS X (.If c a b pos) (sR X.K ad xr W A (ex1 G C (.iff cc ca cb))) :=
  PS.imp (L2.ps_if hc ha hb) fun D σ H hl ⟨τ, Ss, R, q⟩ => by
    rw [ex1] at q
    refine ⟨τ, Ss, R, ?_⟩
    cases e : ev G C cc τ with
    | ok x τ1 =>
      rw [e] at q
      replace q : OutF X.K ad xr W A τ σ H Ss D (match x.1.tr with | some true => exs G C ca τ1 | some false => exs G C cb τ1 | none => .bad) := q
      split at q
      · rename_i hk
        refine ⟨true, hk, fun H' Ss' p => ?_⟩
        simp only [if_true]
        exact ⟨τ1, Ss', p.rel, q.later p (Fr.refl A σ)⟩
      · rename_i hk
        refine ⟨false, hk, fun H' Ss' p => ?_⟩
        simp only [Bool.false_eq_true, if_false]
        exact ⟨τ1, Ss', p.rel, q.later p (Fr.refl A σ)⟩
      · exact q.elim
    | ex c fs τ1 =>
      rw [e] at q
      exact fun cls d H' Ss' p x => q cls d σ H' Ss' p (Fr.refl A σ) x
    | bad => rw [e] at q; exact q
/-- while -/
theorem x_wh {c : Expr} {cc : E} {b : List Stmt} {cb : List S} (hp : PySem.PassesOwn (PySem.model X.prog X.w) X.A X.env X.xe) (hc : PT X c (tR X.K ad xr W (ev G C cc))) (hb : PSs X b (sR X.K ad xr W A (exs G C cb))) : PS X (.While c b [] pos) (sR X.K ad xr W A (ex1 G C (.wh cc cb))) :=
  PS.imp (L2.ps_while hp hc hb) fun D σ H hl ⟨τ, Ss, R, q⟩ => by
    rw [ex1] at q
    refine ⟨fun m σi Hi => ∃ τi Ssi, Post X.K ad τ σi H Ss τi Hi Ssi ∧ Fr A σ σi ∧ OutF X.K ad xr W A τ σ H Ss D (whGo (fun s1 => ev G C cc s1) (fun s1 => exs G C cb s1) m τi), ⟨WF, τ, Ss, Post.refl R, Fr.refl A σ, q⟩, fun m σi Hi ⟨τi, Ssi, p, fr, q⟩ => ?_⟩
    cases m with
    | zero => rw [whGo] at q; exact q.elim
    | succ m =>
      rw [whGo] at q
      refine ⟨τi, Ssi, p.rel, ?_⟩
      cases e : ev G C cc τi with
      | ok x τ1 =>
        simp only [e] at q
        replace q : OutF X.K ad xr W A τ σ H Ss D (match x.1.tr with | some true => (exs G C cb τ1).seq (fun s2 => whGo (fun s1 => ev G C cc s1) (fun s1 => exs G C cb s1) m s2) | some false => .nx τ1 | none => .bad) := q
        split at q
        · rename_i hk
          refine ⟨true, hk, fun H' Ss' p' => ?_⟩
          simp only [if_true]
          refine ⟨fun σ2 H2 => ∃ τi Ssi, Post X.K ad τ σ2 H Ss τi H2 Ssi ∧ Fr A σ σ2 ∧ OutF X.K ad xr W A τ σ H Ss D (whGo (fun s1 => ev G C cc s1) (fun s1 => exs G C cb s1) m τi), fun σ2 H2 h => ⟨m, Nat.lt_succ_self m, h⟩, τ1, Ss', p'.rel, ?_⟩
          exact OutF.bind q (p.trans p') fr rfl fun τ2 σ2 H2 Ss2 _ p2 fr2 q2 => ⟨τ2, Ss2, (p.trans p').trans p2, fr.trans fr2, q2⟩
        · rename_i hk
          refine ⟨false, hk, fun H' Ss' p' => ?_⟩
          simp only [Bool.false_eq_true, if_false]
          exact q σi H' Ss' (p.trans p') fr
        · exact q.elim
      | ex d fs τ1 =>
        simp only [e] at q
        exact fun cls d H' Ss' p' x => q cls d σi H' Ss' (p.trans p') fr x
      | bad => simp only [e] at q; exact q
/-- for -/
theorem x_fr {tg it : Expr} {t : Tg} {ci : E} {b : List Stmt} {cb : List S} (hp : PySem.PassesOwn (PySem.model X.prog X.w) X.A X.env X.xe) (hc : X.calm = true) (hA : ∀ j ∈ t.slots, j ∈ A) (hs : ∀ j ∈ t.slots, j < X.N.length)
    (hi : PI X tg it (iR X.K ad xr W fun s => srcE (ag ci (ev G C ci s) s))) (hg : PG X tg (gTg X.K t)) (hb : PSs X b (sR X.K ad xr W A (exs G C cb))) (hf : ∀ x, PySem.foldedSetIterable it X.env x = pure x) : PS X (.For tg it b [] pos) (sR X.K ad xr W A (ex1 G C (.fr t ci cb))) :=
  PS.imp (L2.ps_for hp hc hi hg hb hf) fun D σ H hl ⟨τ, Ss, R, q⟩ => by
    rw [ex1] at q
    refine ⟨τ, Ss, R, ?_⟩
    simp only [srcE]
    cases e : ag ci (ev G C ci τ) τ with
    | bad => rw [e] at q; exact q
    | ex c fs τ' => rw [e] at q; exact fun cls d H' Ss' p x => q cls d σ H' Ss' p (Fr.refl A σ) x
    | ok a s1 =>
      rw [e] at q
      replace q : OutF X.K ad xr W A τ σ H Ss D (match src a s1 with | none => .bad | some (xs, s2, lk) => forGo t lk (fun s3 => exs G C cb s3) xs s2) := q
      simp only [Rv.bind]
      cases e2 : src a s1 with
      | none => rw [e2] at q; exact q
      | some z =>
        obtain ⟨xs, s2, lk⟩ := z
        rw [e2] at q
        simp only at q ⊢
        intro J H2 Ss2 S0 Hok p2 wk ho stay hS0 hlk
        refine ⟨fun k m σi Hi => m = xs.length - k ∧ k ≤ xs.length ∧ ∃ τi Ssi, Post X.K ad τ σi H Ss τi Hi Ssi ∧ LtD (fun _ => False) s2 H2 Ss2 τi Hi Ssi ∧ Fr A σ σi ∧ OutF X.K ad xr W A τ σ H Ss D (forGo t lk (fun s3 => exs G C cb s3) (xs.drop k) τi), ⟨xs.length, by omega, Nat.zero_le _, s2, Ss2, p2, LtD.refl _, Fr.refl A σ, by rw [List.drop_zero]; exact q⟩, fun k m σi Hi ⟨hm, hk, τi, Ssi, p, lt, fr, q⟩ => ?_⟩
        have hok : Hok Hi := stay _ Hi (fun _ z => z.elim) lt.keep
        have up : ∀ a, Own s2 Ss2 a ∨ H2 a = none → Own τ Ss a ∨ H a = none := fun a h => h.elim (p2.own a) fun z => .inr (p2.back z)
        by_cases ek : k = xs.length
        · subst ek
          rw [List.drop_length, forGo] at q
          refine .inl ⟨wk.stop Hi hok, q σi Hi Ssi (Post.unlk p fun j u hj hu a ha => ?_) fr⟩
          obtain ⟨t0, h1, h2⟩ := hlk j hj
          rcases lt.lk j u hu a ha with ⟨_, _, z⟩ | z | z
          · exact h2 a z
          · exact up a (.inl z)
          · exact up a (.inr z)
        · have hlt : k < xs.length := by omega
          rw [List.drop_eq_getElem_cons hlt, forGo] at q
          cases e1 : putTg t xs[k] τi with
          | none => rw [e1] at q; exact q.elim
          | some s1' =>
            simp only [e1] at q
            replace q : OutF X.K ad xr W A τ σ H Ss D ((exs G C cb s1').seq fun s2 => forGo t lk (fun s3 => exs G C cb s3) (xs.drop (k + 1)) s2) := q
            refine .inr ⟨wk.go k Hi hok hlt, fun σ2 H3 => ∃ τi Ssi, Post X.K ad τ σ2 H Ss τi H3 Ssi ∧ LtD (fun _ => False) s2 H2 Ss2 τi H3 Ssi ∧ Fr A σ σ2 ∧ OutF X.K ad xr W A τ σ H Ss D (forGo t lk (fun s3 => exs G C cb s3) (xs.drop (k + 1)) τi), fun σ2 H3 h => ⟨xs.length - (k + 1), by omega, rfl, hlt, h⟩, fun x H' hy => ?_⟩
            obtain ⟨g, S, r, hS⟩ := wk.yld k Hi x H' hok hy _ (List.getElem?_eq_getElem hlt)
            have pg := Post.grow (K := X.K) (ad := ad) (σ := σi) p.rel g
            have p' := p.trans pg
            have lt' := lt.trans (pg.ltD _)
            refine put_tg p' (x := xs[k]) (S := S) ⟨r, fun a ha z => ?_, fun z => nomatch z⟩ (fun a ha => ⟨(hS0 a (hS a ha)).2.1, fun z => nomatch z⟩) (fun j hj => by rw [p.rel.len, fr.1, hl]; exact hs j hj) e1 fun σ' Ss' hσ hsub hex p3 => ?_
            · exact (lt'.shut a z).elim (hS0 a (hS a ha)).1 (hS0 a (hS a ha)).2.2
            · have lt3 : LtD (fun _ => False) s2 H2 Ss2 s1' H' Ss' := ⟨lt'.keep, lt'.there, fun a ⟨j, u, hu, hja⟩ => by
                  obtain ⟨h1, h2⟩ := hex j u .ow rfl hu
                  exact lt'.own a ⟨j, u, h1, h2 ▸ hja⟩, fun a ⟨j, ⟨u, ww, hu, hw⟩, hja⟩ => by
                  obtain ⟨h1, h2⟩ := hex j u ww hw hu
                  exact lt'.shut a ⟨j, ⟨u, ww, h1, hw⟩, h2 ▸ hja⟩, fun j u hu a ha => by
                  obtain ⟨h1, h2⟩ := hex j u .lk rfl hu
                  exact lt'.lk j u h1 a (h2 ▸ ha)⟩
              have fr3 : Fr A σ σ' := fr.trans ⟨by rw [← p3.rel.len, putTg_length e1, p'.rel.len], fun j hj => hσ j fun z => hj (hA j z)⟩
              exact ⟨s1', Ss', p3.rel, OutF.bind q p3 fr3 rfl fun τ2 σ2 H3 Ss3 _ p4 fr4 q4 => ⟨τ2, Ss3, p3.trans p4, lt3.trans (p4.ltD _), fr3.trans fr4, q4⟩⟩
end
end M
end

section
set_option Elab.async false
set_option autoImplicit false
set_option linter.all false
set_option maxRecDepth 100000
set_option maxHeartbeats 2000000
/-! SoundN: statements that change lists; several names; raise; try. -/
namespace M
open PySem (Addr Str PyData Operator CmpOp UnaryOp Value Expr Stmt Scope NameKind ExceptHandler)
open L2 (V Hp HO SqT SqL Rd upd upd_same upd_ne St VK XK WX TE TT TA TG TGs TI TS It R2 OpR UnR CallR Dp DpAll rI0 rI Cx Room TruV PE PT PW PA PG PGs PI PTs PS PSs PMk Ends Inv Vis Loc Gl Takes Sp FnOk Binds)
section
variable {K : PySem.W.Frag} {ad : Nat → Addr} {xr : Nat → List T → Value → Option Addr → Hp → Prop} {W : WX} {H0 H H1 H2 H' : Hp} {τ0 τ τ1 τ2 τ' : Sl} {σ σ' σ1 : St} {Ss0 Ss Ss1 Ss2 Ss' : Nat → List Addr} {v : V} {S : List Addr} {A : List Nat} {D D' : Ends}
/-- an owned list is changed -/
theorem Post.chg {i : Nat} {t t' : T} {S2 : List Addr} {O : Addr → Prop} (p : Post K ad τ0 σ H0 Ss0 τ H Ss) (hi : rd τ i = some (t, .ow)) (hv : σ[i]? = some (some v)) (r : Rep K ad H' t' v S2) (nd : S2.Nodup) (k : Keep O H H') (lo : Lists O H) (ho : ∀ a, O a → a ∈ Ss i)
    (th : ∀ a, H a ≠ none → H' a ≠ none) (hS : ∀ a ∈ S2, a ∈ Ss i ∨ ((∀ j, a ∉ Ss j) ∧ (Own τ0 Ss0 a ∨ H0 a = none))) : Post K ad τ0 σ H0 Ss0 (M.put τ i t' .ow) H' (updS Ss i S2) := by
  have rdE : ∀ j, rd (M.put τ i t' .ow) j = if j = i then some (t', .ow) else rd τ j := fun j => rd_put (rd_lt hi)
  have up : ∀ a ∈ S2, Own τ0 Ss0 a ∨ H0 a = none := fun a ha => (hS a ha).elim (fun z => p.own a ⟨i, t, hi, z⟩) fun z => z.2
  have ex : exclAt τ i := ⟨t, .ow, hi, rfl⟩
  refine ⟨⟨by unfold M.put; simp only [List.length_set]; exact p.rel.len, fun j => ?_, fun j l hjl ⟨u, w, hu, hw⟩ a ha hl => ?_⟩, fun a o e n => k a o (p.keep a o e n) fun z => ?_, fun a h => th a (p.there a h), fun j a ha => ?_, fun a ⟨j, u, hu, ha⟩ => ?_, fun a ⟨j, ⟨u, w, hu, hw⟩, ha⟩ => ?_, fun a ⟨j, u, w, hu, hw, ha⟩ => ?_, fun j u hu a ha => ?_⟩
  · rw [rdE]
    by_cases e : j = i
    · subst e
      rw [if_pos rfl, updS_same]
      exact ⟨v, by rw [hv]; rfl, r, fun _ => nd⟩
    · rw [if_neg e, updS_ne e]
      have ok := p.rel.ok j
      cases z : rd τ j with
      | none => rw [z] at ok; exact ok
      | some x =>
        rw [z] at ok
        obtain ⟨w, h1, h2, h3⟩ := ok
        exact ⟨w, h1, h2.keep k lo fun a ha q => p.rel.sep i j (Ne.symm e) ex a (ho a q) ha, h3⟩
  · rw [rdE] at hu
    by_cases e : j = i
    · subst e
      rw [updS_same] at ha
      rw [updS_ne (Ne.symm hjl)] at hl
      exact (hS a ha).elim (fun z => p.rel.sep j l hjl ex a z hl) fun z => z.1 l hl
    · rw [if_neg e] at hu; rw [updS_ne e] at ha
      by_cases e2 : l = i
      · subst e2
        rw [updS_same] at hl
        exact (hS a hl).elim (fun z => p.rel.sep j l hjl ⟨u, w, hu, hw⟩ a ha z) fun z => z.1 j ha
      · rw [updS_ne e2] at hl
        exact p.rel.sep j l hjl ⟨u, w, hu, hw⟩ a ha hl
  · rcases p.own a ⟨i, t, hi, ho a z⟩ with q | q
    · exact n q
    · rw [e] at q; cases q
  · by_cases e : j = i
    · subst e; rw [updS_same] at ha
      exact (up a ha).imp (fun q => q.slot) id
    · rw [updS_ne e] at ha; exact p.sup j a ha
  · rw [rdE] at hu
    by_cases e : j = i
    · subst e; rw [updS_same] at ha; exact up a ha
    · rw [if_neg e] at hu; rw [updS_ne e] at ha; exact p.own a ⟨j, u, hu, ha⟩
  · rw [rdE] at hu
    by_cases e : j = i
    · subst e; rw [updS_same] at ha; exact (up a ha).imp Own.shut id
    · rw [if_neg e] at hu; rw [updS_ne e] at ha; exact p.shut a ⟨j, ⟨u, w, hu, hw⟩, ha⟩
  · rw [rdE] at hu
    by_cases e : j = i
    · subst e; rw [updS_same] at ha; exact (up a ha).imp Own.src id
    · rw [if_neg e] at hu; rw [updS_ne e] at ha; exact p.src a ⟨j, u, w, hu, hw, ha⟩
  · rw [rdE] at hu
    by_cases e : j = i
    · subst e; rw [if_pos rfl] at hu; cases hu
    · rw [if_neg e] at hu; rw [updS_ne e] at ha; exact p.lk j u hu a ha
/-- one item of a row, the others around it -/
theorem RepL.split : ∀ {ts : List T} {vs : List V} {S : List Addr} {j : Nat} {u : T}, RepL K ad H ts vs S → ts[j]? = some u → ∃ v SA Sj SB, vs[j]? = some v ∧ S = SA ++ (Sj ++ SB) ∧ Rep K ad H u v Sj ∧
    ∀ {H' : Hp} {O : Addr → Prop} {u' : T} {v' : V} {S' : List Addr}, Keep O H H' → Lists O H → (∀ a ∈ SA, ¬ O a) → (∀ a ∈ SB, ¬ O a) → Rep K ad H' u' v' S' → RepL K ad H' (ts.set j u') (vs.set j v') (SA ++ (S' ++ SB))
  | [], _, _, _, _, _, e => by simp at e
  | t :: ts, _, _, 0, u, h, e => by
    rw [RepL] at h
    obtain ⟨v, vs', S1, S2, e', es, q, rr⟩ := h
    subst e' es
    have : t = u := by simpa using e
    subst this
    refine ⟨v, [], S1, S2, rfl, rfl, q, fun k l _ h2 r => ?_⟩
    have := RepL.cons r (rr.keep k l h2)
    simpa using this
  | t :: ts, _, _, j + 1, u, h, e => by
    rw [RepL] at h
    obtain ⟨v, vs', S1, S2, e', es, q, rr⟩ := h
    subst e' es
    obtain ⟨w, SA, Sj, SB, h1, h2, h3, h4⟩ := RepL.split (j := j) (u := u) rr (by simpa using e)
    subst h2
    refine ⟨w, S1 ++ SA, Sj, SB, by simpa using h1, by simp [List.append_assoc], h3, fun k l ha hb r => ?_⟩
    have := RepL.cons (q.keep k l fun a h => ha a (by simp [h])) (h4 k l (fun a h => ha a (by simp [h])) hb r)
    simpa [List.append_assoc] using this
theorem RepL.snoc {ts : List T} {vs : List V} {S S' : List Addr} {t : T} {v : V} (h : RepL K ad H ts vs S) (r : Rep K ad H t v S') : RepL K ad H (ts ++ [t]) (vs ++ [v]) (S ++ S') := by
  have := RepL.append h (RepL.cons r RepL.nil)
  simpa using this
/-- the owned list as an object -/
theorem Rel.lst (R : Rel K ad τ σ H Ss) {i : Nat} {xs : List T} {w : Ow} (h : rd τ i = some (.lst xs, w)) : ∃ a vs S', σ[i]? = some (some (.ref a)) ∧ H a = some (.lst vs) ∧ Ss i = a :: S' ∧ RepL K ad H xs vs S' ∧ (w.excl = true → (Ss i).Nodup) := by
  obtain ⟨v, hv, r, nd⟩ := R.get h
  rw [Rep.lst_iff] at r
  obtain ⟨a, vs, S', e, q, es, l⟩ := r
  subst e
  exact ⟨a, vs, S', hv, q, es, l, nd⟩
theorem keep_upd {a : Addr} {o : HO} : Keep (fun b => b = a) H (upd H a o) := fun b u h n => by rw [upd_ne n]; exact h
theorem there_upd {a : Addr} {o : HO} : ∀ b, H b ≠ none → upd H a o b ≠ none := fun b h => by
  by_cases e : b = a
  · subst e; rw [upd_same]; simp
  · rw [upd_ne e]; exact h
theorem lists_one {a : Addr} {vs : List V} (h : H a = some (.lst vs)) : Lists (fun b => b = a) H := fun b e => ⟨vs, e ▸ h⟩
/-- x.append -/
theorem app_ok {i : Nat} {t : T} {v : V} {S : List Addr} {xs : List T} (p : Post K ad τ0 σ H0 Ss0 τ H Ss) (hr : rd τ i = some (.lst xs, .ow)) (w : Val K ad τ H Ss t true v S) (o : Org τ0 H0 Ss0 true S) :
    ∃ a vs, σ[i]? = some (some (.ref a)) ∧ H a = some (.lst vs) ∧ vs.length = xs.length ∧ ∃ Ss', Post K ad τ0 σ H0 Ss0 (put τ i (.lst (xs ++ [t])) .ow) (upd H a (.lst (vs ++ [v]))) Ss' := by
  obtain ⟨a, vs, S', hv, ha, es, l, nd⟩ := p.rel.lst hr
  obtain ⟨n1, n2⟩ := w.mine rfl
  have nd := nd rfl
  rw [es] at nd
  obtain ⟨nd1, nd2⟩ := List.nodup_cons.mp nd
  have naS : a ∉ S := fun h => n2 a h i (by rw [es]; simp)
  have dj : ∀ b ∈ S', b ∉ S := fun b hb h => n2 b h i (by rw [es]; simp [hb])
  refine ⟨a, vs, hv, ha, l.length.symm, _, p.chg (S2 := a :: (S' ++ S)) (O := fun b => b = a) hr hv ?_ ?_ keep_upd (lists_one ha) (fun b e => by rw [es, e]; simp) there_upd fun b hb => ?_⟩
  · rw [Rep.lst_iff]
    refine ⟨a, _, _, rfl, upd_same, rfl, RepL.snoc (l.keep keep_upd (lists_one ha) fun b hb e => nd1 (e ▸ hb)) (w.rep.keep keep_upd (lists_one ha) fun b hb e => naS (e ▸ hb))⟩
  · refine List.nodup_cons.mpr ⟨?_, List.nodup_append.mpr ⟨nd2, n1, fun b hb c hc e => dj b hb (e ▸ hc)⟩⟩
    rw [List.mem_append]
    exact fun h => h.elim nd1 naS
  · rcases List.mem_cons.mp hb with e | e
    · left; rw [es, e]; simp
    · rcases List.mem_append.mp e with e | e
      · left; rw [es]; simp [e]
      · right; exact ⟨n2 b e, (o b e).2 rfl⟩
/-- x.extend(a new list) -/
theorem ext_ok {i : Nat} {ys : List T} {v : V} {S : List Addr} {xs : List T} (p : Post K ad τ0 σ H0 Ss0 τ H Ss) (hr : rd τ i = some (.lst xs, .ow)) (w : Val K ad τ H Ss (.lst ys) true v S) (o : Org τ0 H0 Ss0 true S) :
    ∃ a vs b us, σ[i]? = some (some (.ref a)) ∧ H a = some (.lst vs) ∧ vs.length = xs.length ∧ v = .ref b ∧ H b = some (.lst us) ∧ us.length = ys.length ∧ ∃ Ss', Post K ad τ0 σ H0 Ss0 (put τ i (.lst (xs ++ ys)) .ow) (upd H a (.lst (vs ++ us))) Ss' := by
  obtain ⟨a, vs, S', hv, ha, es, l, nd⟩ := p.rel.lst hr
  obtain ⟨n1, n2⟩ := w.mine rfl
  have rw' := w.rep
  rw [Rep.lst_iff] at rw'
  obtain ⟨b, us, S3, ev, hb, es3, l3⟩ := rw'
  subst ev es3
  have nd := nd rfl
  rw [es] at nd
  obtain ⟨nd1, nd2⟩ := List.nodup_cons.mp nd
  obtain ⟨m1, m2⟩ := List.nodup_cons.mp n1
  have naS : a ∉ S3 := fun h => n2 a (by simp [h]) i (by rw [es]; simp)
  have dj : ∀ c ∈ S', c ∉ S3 := fun c hc h => n2 c (by simp [h]) i (by rw [es]; simp [hc])
  refine ⟨a, vs, b, us, hv, ha, l.length.symm, rfl, hb, l3.length.symm, _, p.chg (S2 := a :: (S' ++ S3)) (O := fun b => b = a) hr hv ?_ ?_ keep_upd (lists_one ha) (fun b e => by rw [es, e]; simp) there_upd fun c hc => ?_⟩
  · rw [Rep.lst_iff]
    refine ⟨a, _, _, rfl, upd_same, rfl, RepL.append (l.keep keep_upd (lists_one ha) fun b hb e => nd1 (e ▸ hb)) (l3.keep keep_upd (lists_one ha) fun b hb e => naS (e ▸ hb))⟩
  · refine List.nodup_cons.mpr ⟨?_, List.nodup_append.mpr ⟨nd2, m2, fun b hb c hc e => dj b hb (e ▸ hc)⟩⟩
    rw [List.mem_append]
    exact fun h => h.elim nd1 naS
  · rcases List.mem_cons.mp hc with e | e
    · left; rw [es, e]; simp
    · rcases List.mem_append.mp e with e | e
      · left; rw [es]; simp [e]
      · right; exact ⟨n2 c (by simp [e]), (o c (by simp [e])).2 rfl⟩
/-- x[j] = v -/
theorem set_ok {i j : Nat} {t u : T} {v : V} {S : List Addr} {xs : List T} (p : Post K ad τ0 σ H0 Ss0 τ H Ss) (hr : rd τ i = some (.lst xs, .ow)) (hj : xs[j]? = some u) (w : Val K ad τ H Ss t true v S) (o : Org τ0 H0 Ss0 true S) :
    ∃ a vs, σ[i]? = some (some (.ref a)) ∧ H a = some (.lst vs) ∧ vs.length = xs.length ∧ ∃ Ss', Post K ad τ0 σ H0 Ss0 (put τ i (.lst (xs.set j t)) .ow) (upd H a (.lst (vs.set j v))) Ss' := by
  obtain ⟨a, vs, S', hv, ha, es, l, nd⟩ := p.rel.lst hr
  obtain ⟨n1, n2⟩ := w.mine rfl
  have nd := nd rfl
  rw [es] at nd
  obtain ⟨nd1, nd2⟩ := List.nodup_cons.mp nd
  obtain ⟨v0, SA, Sj, SB, h1, h2, h3, h4⟩ := l.split hj
  subst h2
  have naS : a ∉ S := fun h => n2 a h i (by rw [es]; simp)
  have dj : ∀ b, (b ∈ SA ∨ b ∈ SB) → b ∉ S := fun b hb h => n2 b h i (by rw [es]; rcases hb with q | q <;> simp [q])
  have nA : a ∉ SA := fun h => nd1 (by simp [h])
  have nB : a ∉ SB := fun h => nd1 (by simp [h])
  obtain ⟨q1, q2, q3⟩ := List.nodup_append.mp nd2
  obtain ⟨q4, q5, q6⟩ := List.nodup_append.mp q2
  refine ⟨a, vs, hv, ha, l.length.symm, _, p.chg (S2 := a :: (SA ++ (S ++ SB))) (O := fun b => b = a) hr hv ?_ ?_ keep_upd (lists_one ha) (fun b e => by rw [es, e]; simp) there_upd fun b hb => ?_⟩
  · rw [Rep.lst_iff]
    exact ⟨a, _, _, rfl, upd_same, rfl, h4 keep_upd (lists_one ha) (fun b hb e => nA (e ▸ hb)) (fun b hb e => nB (e ▸ hb)) (w.rep.keep keep_upd (lists_one ha) fun b hb e => naS (e ▸ hb))⟩
  · refine List.nodup_cons.mpr ⟨?_, List.nodup_append.mpr ⟨q1, List.nodup_append.mpr ⟨n1, q5, fun b hb c hc e => dj c (.inr hc) (e ▸ hb)⟩, fun b hb c hc e => ?_⟩⟩
    · simp only [List.mem_append, not_or]
      exact ⟨nA, naS, nB⟩
    · subst e
      rcases List.mem_append.mp hc with z | z
      · exact dj b (.inl hb) z
      · exact q3 b hb b (List.mem_append_right _ z) rfl
  · rcases List.mem_cons.mp hb with e | e
    · left; rw [es, e]; simp
    · rcases List.mem_append.mp e with e | e
      · left; rw [es]; simp [e]
      · rcases List.mem_append.mp e with e | e
        · right; exact ⟨n2 b e, (o b e).2 rfl⟩
        · left; rw [es]; simp [e]
/-- an item without lists goes -/
theorem RepL.erase : ∀ {ts : List T} {vs : List V} {S : List Addr} {j : Nat} {u : T}, RepL K ad H ts vs S → ts[j]? = some u → u.lf = true → ∃ v, vs[j]? = some v ∧ Rep K ad H u v [] ∧ RepL K ad H (ts.eraseIdx j) (vs.eraseIdx j) S
  | [], _, _, _, _, _, e, _ => by simp at e
  | t :: ts, _, _, 0, u, h, e, f => by
    rw [RepL] at h
    obtain ⟨v, vs', S1, S2, e', es, q, rr⟩ := h
    subst e' es
    have : t = u := by simpa using e
    subst this
    have := q.lf f
    subst this
    exact ⟨v, rfl, q, by simpa using rr⟩
  | t :: ts, _, _, j + 1, u, h, e, f => by
    rw [RepL] at h
    obtain ⟨v, vs', S1, S2, e', es, q, rr⟩ := h
    subst e' es
    obtain ⟨w, h1, h2, h3⟩ := RepL.erase (j := j) (u := u) rr (by simpa using e) f
    exact ⟨w, by simpa using h1, h2, by simpa using RepL.cons q h3⟩
theorem pop_ok {i j : Nat} {u : T} {xs : List T} (p : Post K ad τ0 σ H0 Ss0 τ H Ss) (hr : rd τ i = some (.lst xs, .ow)) (hj : xs[j]? = some u) (f : u.lf = true) :
    ∃ a vs v, σ[i]? = some (some (.ref a)) ∧ H a = some (.lst vs) ∧ vs.length = xs.length ∧ vs[j]? = some v ∧ ∃ Ss', Post K ad τ0 σ H0 Ss0 (put τ i (.lst (xs.eraseIdx j)) .ow) (upd H a (.lst (vs.eraseIdx j))) Ss' ∧ Rep K ad (upd H a (.lst (vs.eraseIdx j))) u v [] := by
  obtain ⟨a, vs, S', hv, ha, es, l, nd⟩ := p.rel.lst hr
  have nd := nd rfl
  have nd' := nd
  rw [es] at nd
  obtain ⟨nd1, nd2⟩ := List.nodup_cons.mp nd
  obtain ⟨v, h1, h2, h3⟩ := l.erase hj f
  refine ⟨a, vs, v, hv, ha, l.length.symm, h1, _, p.chg (S2 := a :: S') (O := fun b => b = a) hr hv ?_ nd keep_upd (lists_one ha) (fun b e => by rw [es, e]; simp) there_upd fun b hb => .inl (by rw [es]; exact hb), h2.keep keep_upd (lists_one ha) (by simp)⟩
  rw [Rep.lst_iff]
  exact ⟨a, _, _, rfl, upd_same, rfl, h3.keep keep_upd (lists_one ha) fun b hb e => nd1 (e ▸ hb)⟩
/-! ### several names -/
def setAll : St → List Nat → List V → St
  | σ, i :: is, v :: vs => setAll (σ.set i (some v)) is vs
  | σ, _, _ => σ
theorem Val.put' {i : Nat} {w : Ow} {o o' : Bool} {t u : T} {v' : V} {S' : List Addr} (R : Rel K ad τ σ H Ss) (x : Val K ad τ H Ss t o v S) (y : Val K ad τ H Ss u o' v' S') (hi : i < τ.length) (hw : w = .sh ∨ (w = .ow ∧ o = true)) (d : (o || o') = true → ∀ a ∈ S, a ∉ S') :
    Val K ad (M.put τ i t w) H (updS Ss i S) u o' v' S' := by
  have h := Val.put R x y hi hw (fun z => d (by simp [z]))
  refine ⟨h.rep, h.free, fun z => ⟨(y.mine z).1, fun a ha j hj => ?_⟩⟩
  by_cases e : j = i
  · subst e; rw [updS_same] at hj; exact d (by simp [z]) a hj ha
  · rw [updS_ne e] at hj; exact (y.mine z).2 a ha j hj
theorem ValL.put' {i : Nat} {w : Ow} {o : Bool} {t : T} (R : Rel K ad τ σ H Ss) (x : Val K ad τ H Ss t o v S) (hi : i < τ.length) (hw : w = .sh ∨ (w = .ow ∧ o = true)) : ∀ {xs : List (T × Bool)} {vs : List V} {Sl : List (List Addr)}, ValL K ad τ H Ss xs vs Sl →
    (∀ p ∈ xs.zip Sl, (o || p.1.2) = true → ∀ a ∈ S, a ∉ p.2) → ValL K ad (M.put τ i t w) H (updS Ss i S) xs vs Sl
  | [], [], [], _, _ => trivial
  | y :: xs, v' :: vs, S' :: Sl, h, d => ⟨Val.put' R x h.1 hi hw (d (y, S') (by rw [List.zip_cons_cons]; exact List.mem_cons_self)), ValL.put' R x hi hw h.2 fun p hp => d p (by rw [List.zip_cons_cons]; exact List.mem_cons_of_mem _ hp)⟩
theorem par_ok : ∀ {is : List (Nat × Bool)} {xs : List (T × Bool)} {vs : List V} {Sls : List (List Addr)} {τ τ' : Sl} {σ : St} {Ss : Nat → List Addr}, Post K ad τ0 σ H0 Ss0 τ H Ss → ValL K ad τ H Ss xs vs Sls → OrgL τ0 H0 Ss0 xs Sls → Cross xs Sls → putAll is xs τ = some τ' → (∀ q ∈ is, q.1 < τ.length) →
    vs.length = is.length ∧ ∃ Ss', Post K ad τ0 (setAll σ (is.map (·.1)) vs) H0 Ss0 τ' H Ss'
  | [], [], [], [], τ, τ', σ, Ss, p, _, _, _, h, _ => by
    simp only [putAll, Option.some.injEq] at h
    subst h
    exact ⟨rfl, Ss, p⟩
  | [], _ :: _, _, _, _, _, _, _, _, _, _, _, h, _ => by simp [putAll] at h
  | _ :: _, [], _, _, _, _, _, _, _, _, _, _, h, _ => by simp [putAll] at h
  | (i, w) :: is, (t, o) :: xs, v :: vs, S :: Sls, τ, τ', σ, Ss, p, hv, ho, hc, h, hl => by
    have hi : i < τ.length := hl (i, w) (by simp)
    rw [putAll] at h
    have go : ∀ wv : Ow, (wv = .sh ∨ (wv = .ow ∧ o = true)) → putAll is xs (M.put τ i t wv) = some τ' → (v :: vs).length = ((i, w) :: is).length ∧ ∃ Ss', Post K ad τ0 (setAll σ (((i, w) :: is).map (·.1)) (v :: vs)) H0 Ss0 τ' H Ss' := fun wv hwv h => by
      have := par_ok (is := is) (p.put (w := wv) hv.1 ho.1 hi hwv) (ValL.put' p.rel hv.1 hi hwv hv.2 hc.1) ho.2 hc.2 h fun q hq => by unfold M.put; rw [List.length_set]; exact hl q (by simp [hq])
      exact ⟨by simp [this.1], this.2⟩
    split at h
    · split at h
      · rename_i e; exact go .ow (.inr ⟨rfl, e⟩) h
      · cases h
    · exact go .sh (.inl rfl) h
theorem fr_all : ∀ {is : List Nat} {vs : List V} {σ : St}, (∀ i ∈ is, i ∈ A) → Fr A σ (setAll σ is vs)
  | [], _, σ, _ => Fr.refl A σ
  | _ :: _, [], σ, _ => Fr.refl A σ
  | i :: is, v :: vs, σ, h => (fr_set (h i (by simp))).trans (fr_all fun j hj => h j (by simp [hj]))
theorem gAll {Q : St → Hp → Prop} : ∀ {is : List Nat} {vs : List V} {σ : St}, vs.length = is.length → Q (setAll σ is vs) H → (is.foldr (fun i g => L2.gCons (L2.gName i) g) L2.gNil) vs σ H Q
  | [], [], σ, _, q => ⟨rfl, q⟩
  | [], _ :: _, _, l, _ => by simp at l
  | _ :: _, [], _, l, _ => by simp at l
  | i :: is, v :: vs, σ, l, q => ⟨v, vs, rfl, gAll (is := is) (by simpa using l) q⟩
end
end M
end

section
set_option Elab.async false
set_option autoImplicit false
set_option linter.all false
set_option maxRecDepth 100000
set_option maxHeartbeats 2000000
/-! SoundO: statements that change lists; several names; raise; try: their rules. -/
namespace M
open PySem (Addr Str PyData Operator CmpOp UnaryOp Value Expr Stmt Scope NameKind ExceptHandler)
open L2 (V Hp HO SqT SqL Rd upd upd_same upd_ne St VK XK WX TE TT TA TG TGs TI TS It R2 OpR UnR CallR Dp DpAll rI0 rI Cx Room TruV PE PT PW PA PG PGs PI PTs PS PSs PMk Ends Inv Vis Loc Gl Takes Sp FnOk Binds)
inductive All2 {α β : Type} (R : α → β → Prop) : List α → List β → Prop
  | nil : All2 R [] []
  | cons {a : α} {b : β} {as : List α} {bs : List β} (h : R a b) (r : All2 R as bs) : All2 R (a :: as) (b :: bs)
theorem ixN_lt {n : Nat} {i : Int} {j : Nat} (h : ixN n i = some j) : j < n := by
  unfold ixN at h
  split at h
  · split at h
    · cases h; omega
    · cases h
  · split at h
    · cases h; omega
    · cases h
theorem isLs_iff {s : Sl} {i : Nat} (h : isLs s i = true) : ∃ xs w, rd s i = some (.lst xs, w) := by
  unfold isLs at h
  split at h
  · rename_i xs w e; exact ⟨xs, w, e⟩
  · cases h
theorem few_one {e : Expr} {env : PySem.Env} {cpos : PySem.Pos} (h : isStar e = false) : ((PySem.backTo cpos (PySem.starEach [e] env)).all (fun x => !x.1) && (PySem.backToKw cpos (PySem.keywordEach [] env)).all (fun x => x.1.isSome)
      && decide (([e] : List Expr).length + ([] : List PySem.Keyword).length + (if ([] : List PySem.Keyword).isEmpty then 0 else 1) < 30)) = true := by
  rw [star_cons h]; rfl
section
variable {X : Cx} {ad : Nat → Addr} {xr : Nat → List T → Value → Option Addr → Hp → Prop} {W : WX} {A : List Nat} {G : Pg} {C : Nat → List T → CR} {st : Stmt} {sts : List Stmt} {pos p1 p2 p3 : PySem.Pos} {e : Expr} {ce : E} {i : Nat} {x : Str}
/-- one argument, as a list of arguments -/
theorem a_one (hs : isStar e = false) (h : PE X e (eR X.K ad xr W (ev G C ce))) : PA X [e] (L2.tCons (eR X.K ad xr W (ev G C ce)) L2.tNil) := L2.pa_cons h L2.pa_nil (star_cons hs)
theorem x_app (hN : PE X (.Name x p1) (L2.tVar i)) (hs : isStar e = false) (he : PE X e (eR X.K ad xr W (ev G C ce))) (hl : (p2.endLine == p3.line) = true) : PS X (.Expr (.Call (.Attribute (.Name x p1) "append" p2) [e] [] p3) pos) (sR X.K ad xr W A (ex1 G C (.app i ce))) :=
  PS.imp (L2.ps_expr (L2.pe_bm PySem.F.plainAttrs_list PySem.F.slot_list_append PySem.F.type_list_append L2.mt_append hN (a_one hs he) rfl (few_one hs) hl (star_cons hs) rfl) rfl) fun D σ H hlen ⟨τ, Ss, R, q⟩ => by
    rw [ex1] at q
    split at q
    case isFalse => exact q.elim
    rename_i hls
    obtain ⟨xs0, w0, e0⟩ := isLs_iff hls
    obtain ⟨a, vs, S', hv, ha, es, l, _⟩ := R.lst e0
    refine ⟨.ref a, hv, .inl ⟨rfl, vs, SqL.of ha⟩, τ, Ss, R, q.step fun y τ2 v H2 Ss2 S _ p w o q2 => ?_⟩
    unfold appR at q2
    split at q2
    · rename_i xs hr
      split at q2
      · rename_i hc
        rw [Bool.and_eq_true, decide_eq_true_eq] at hc
        rw [hc.1] at w o
        obtain ⟨a', vs', h1, h2, h3, Ss', p'⟩ := app_ok p hr w o
        rw [hv] at h1; cases h1
        refine ⟨a, vs', v, rfl, rfl, h2, by rw [LIM_eq, h3]; exact hc.2, ?_⟩
        exact q2 σ _ Ss' p' (Fr.refl A σ)
      · exact q2.elim
    · exact q2.elim
theorem x_ext (hN : PE X (.Name x p1) (L2.tVar i)) (hs : isStar e = false) (he : PE X e (eR X.K ad xr W (ev G C ce))) (hl : (p2.endLine == p3.line) = true) : PS X (.Expr (.Call (.Attribute (.Name x p1) "extend" p2) [e] [] p3) pos) (sR X.K ad xr W A (ex1 G C (.ext i ce))) :=
  PS.imp (L2.ps_expr (L2.pe_bm PySem.F.plainAttrs_list PySem.F.slot_list_extend PySem.F.type_list_extend L2.mt_extend hN (a_one hs he) rfl (few_one hs) hl (star_cons hs) rfl) rfl) fun D σ H hlen ⟨τ, Ss, R, q⟩ => by
    rw [ex1] at q
    split at q
    case isFalse => exact q.elim
    rename_i hls
    obtain ⟨xs0, w0, e0⟩ := isLs_iff hls
    obtain ⟨a, vs, S', hv, ha, es, l, _⟩ := R.lst e0
    refine ⟨.ref a, hv, .inl ⟨rfl, vs, SqL.of ha⟩, τ, Ss, R, q.step fun y τ2 v H2 Ss2 S _ p w o q2 => ?_⟩
    unfold extR at q2
    split at q2
    · rename_i xs ys hr hy
      split at q2
      · rename_i hc
        rw [Bool.and_eq_true, decide_eq_true_eq] at hc
        rw [hc.1, hy] at w
        rw [hc.1] at o
        obtain ⟨a', vs', b, us, h1, h2, h3, h4, h5, h6, Ss', p'⟩ := ext_ok p hr w o
        rw [hv] at h1; cases h1
        refine ⟨a, b, vs', us, rfl, by rw [h4], h2, h5, by rw [LIM_eq, h3, h6]; exact hc.2, ?_⟩
        exact q2 σ _ Ss' p' (Fr.refl A σ)
      · exact q2.elim
    · exact q2.elim
/-- x[k] = e -/
theorem x_stI {kx : Expr} {ck : E} {tp pos' : PySem.Pos} (hN : PE X (.Name x p1) (L2.tVar i)) (hk : PE X kx (eR X.K ad xr W (ev G C ck))) (he : PE X e (eR X.K ad xr W (ev G C ce)))
    (ha : ∀ v, PySem.assign (.Subscript (.Name x p1) kx tp) X.env v = (do
      let ov ← PySem.holding [v] (PySem.eval (.Name x p1) X.env)
      let iv ← PySem.holding [v, ov] (PySem.eval kx X.env)
      PySem.standAt tp
      PySem.holding [v, ov, iv] (PySem.setItem ov iv v)
      PySem.release [v, ov, iv] []))
    (hs : PySem.swapsWithSole [.Subscript (.Name x p1) kx tp] e pos.line X.env = pure false) (hw : PySem.swappedStores [.Subscript (.Name x p1) kx tp] e X.env = pure none) :
    PS X (.Assign [.Subscript (.Name x p1) kx tp] e pos) (sR X.K ad xr W A (ex1 G C (.stI i [] ck ce))) :=
  PS.imp (L2.ps_asg he (L2.pg_sub hN hk L2.set_list ha) hs hw rfl) fun D σ H hlen ⟨τ, Ss, R, q⟩ => by
    rw [ex1] at q
    refine ⟨τ, Ss, R, q.step fun y τ1 v H1 Ss1 S _ p w o q1 => ?_⟩
    split at q1
    case isFalse => exact q1.elim
    rename_i hsm
    obtain ⟨⟨u0, w0⟩, e0⟩ := Option.isSome_iff_exists.mp hsm
    obtain ⟨v0, hv, _, _⟩ := p.rel.get e0
    refine ⟨v0, hv, τ1, Ss1, p.rel, ?_⟩
    rw [evs] at q1
    replace q1 : OutF X.K ad xr W A τ σ H Ss D ((ev G C ck τ1).fl fun k s3 => stR i [] k.1 y s3) := q1
    cases ek : ev G C ck τ1 with
    | bad => rw [ek] at q1; exact q1
    | ex c fs τ2 => rw [ek] at q1; exact fun cls d H' Ss' p' x' => q1 cls d σ H' Ss' (p.trans p') (Fr.refl A σ) x'
    | ok k τ2 =>
      rw [ek] at q1
      intro vk H2 Ss2 Sk p2 wk ok
      replace q1 : OutF X.K ad xr W A τ σ H Ss D (stR i [] k.1 y τ2) := q1
      have pp := p.trans p2
      have w2 := w.after p.rel p2
      unfold stR at q1
      split at q1
      · rename_i xs hr _
        split at q1
        · rename_i hy
          split at q1
          · rename_i ys hst
            unfold stL at hst
            split at hst
            · rename_i n hkn
              obtain ⟨j, hj, ej⟩ := Option.map_eq_some_iff.mp hst
              subst ej
              rw [hy] at w2 o
              have hlt : j < xs.length := ixN_lt hj
              obtain ⟨a, vs, h1, h2, h3, Ss', p'⟩ := set_ok pp hr (List.getElem?_eq_getElem hlt) w2 o
              rw [hv] at h1; cases h1
              have rk := wk.rep
              rw [hkn, Rep.int_iff] at rk
              refine ⟨a, vs, n, j, rfl, rk.1, h2, by rw [h3]; exact hj, ?_⟩
              exact q1 σ _ Ss' p' (Fr.refl A σ)
            · cases hst
          · exact q1.elim
        · exact q1.elim
      · rename_i hp; cases hp
      · exact q1.elim
/-- a, b = .. : values in a row, put in order -/
theorem x_par_end {is : List (Nat × Bool)} {xs : List (T × Bool)} {τ τ2 : Sl} {σ : St} {H H2 : Hp} {Ss Ss2 : Nat → List Addr} {D : Ends} {vs : List V} {Sls : List (List Addr)} (hA : ∀ j ∈ is.map (·.1), j ∈ A) (hi : ∀ q ∈ is, q.1 < τ2.length) (p : Post X.K ad τ σ H Ss τ2 H2 Ss2) (w : ValL X.K ad τ2 H2 Ss2 xs vs Sls) (o : OrgL τ H Ss xs Sls) (c : Cross xs Sls)
    (q : OutF X.K ad xr W A τ σ H Ss D (match putAll is xs τ2 with | some s2 => .nx s2 | none => .bad)) : vs.length = is.length ∧ D.nx (setAll σ (is.map (·.1)) vs) H2 := by
  cases e : putAll is xs τ2 with
  | none => rw [e] at q; exact q.elim
  | some s2 =>
    rw [e] at q
    obtain ⟨h1, Ss', h2⟩ := par_ok p w o c e hi
    exact ⟨h1, q _ H2 Ss' h2 (fr_all hA)⟩
/-- .. where the stores are swapped -/
theorem x_par {is : List (Nat × Bool)} {es : List Expr} {cs : List E} {u : TS} (hA : ∀ j ∈ is.map (·.1), j ∈ A) (hi : ∀ q ∈ is, q.1 < X.N.length) (ha : PA X es (lR X.K ad xr W (evs G C cs))) (h : PA X es (lR X.K ad xr W (evs G C cs)) → PS X st u)
    (hu : ∀ D σ H, lR X.K ad xr W (evs G C cs) σ H (fun vs H1 => vs.length = is.length ∧ D.nx (setAll σ (is.map (·.1)) vs) H1) → u D σ H) : PS X st (sR X.K ad xr W A (ex1 G C (.par is cs))) :=
  PS.imp (h ha) fun D σ H hlen ⟨τ, Ss, R, q⟩ => hu D σ H ⟨τ, Ss, R, by
    rw [ex1] at q
    exact q.stepL fun xs τ2 vs H2 Ss2 Sls _ p w o c q2 => x_par_end hA (by rw [p.rel.len, hlen]; exact hi) p w o c q2⟩
theorem u_par2 {i j : Nat} {t : TA} {D : Ends} {σ : St} {H : Hp} (h : t σ H (fun vs H1 => vs.length = 2 ∧ D.nx (setAll σ [i, j] vs) H1)) (mono : ∀ {Q Q' : List V → Hp → Prop}, (∀ vs H, Q vs H → Q' vs H) → t σ H Q → t σ H Q') : L2.tPar i j t D σ H := by
  refine mono (fun vs H1 ⟨l, q⟩ => ?_) h
  match vs, l with
  | [v, w], _ => exact ⟨v, w, rfl, q⟩
theorem u_par3 {i j l : Nat} {t : TA} {D : Ends} {σ : St} {H : Hp} (h : t σ H (fun vs H1 => vs.length = 3 ∧ D.nx (setAll σ [i, j, l] vs) H1)) (mono : ∀ {Q Q' : List V → Hp → Prop}, (∀ vs H, Q vs H → Q' vs H) → t σ H Q → t σ H Q') : L2.tPar3 i j l t D σ H := by
  refine mono (fun vs H1 ⟨l, q⟩ => ?_) h
  match vs, l with
  | [u, v, w], _ => exact ⟨u, v, w, rfl, q⟩
theorem lR_mono {K : PySem.W.Frag} {f : Sl → Rv (List (T × Bool))} {σ : St} {H : Hp} {Q Q' : List V → Hp → Prop} (h : ∀ vs H, Q vs H → Q' vs H) : lR K ad xr W f σ H Q → lR K ad xr W f σ H Q' := fun ⟨τ, Ss, R, q⟩ => ⟨τ, Ss, R, by
  cases e : f τ with
  | ok xs τ' => rw [e] at q; exact fun vs H' Ss' Sl a b c d => h vs H' (q vs H' Ss' Sl a b c d)
  | ex c fs τ' => rw [e] at q; exact q
  | bad => rw [e] at q; exact q⟩
/-- .. else the tuple is made and taken apart -/
theorem u_tup {is : List (Nat × Bool)} {t : TA} {D : Ends} {σ : St} {H : Hp} (hn : is.length ≤ LIM) (h : t σ H (fun vs H1 => vs.length = is.length ∧ ∀ p, H1 p = none → D.nx (setAll σ (is.map (·.1)) vs) (upd H1 p (.tup vs)))) (mono : ∀ {Q Q' : List V → Hp → Prop}, (∀ vs H, Q vs H → Q' vs H) → t σ H Q → t σ H Q') :
    L2.tAsg (L2.tTup t) (gTg X.K (.tp (is.map (·.1)))) D σ H := by
  refine mono (fun vs H1 ⟨l, q⟩ => ?_) h
  refine ⟨by rw [LIM_eq, l]; exact hn, fun p hp => ⟨p, vs, rfl, .inl (.inl upd_same), by rw [l, List.length_map], gAll (by rw [l, List.length_map]) (q p hp)⟩⟩
theorem x_parT {is : List (Nat × Bool)} {es : List Expr} {cs : List E} (hn : is.length ≤ LIM) (hA : ∀ j ∈ is.map (·.1), j ∈ A) (hi : ∀ q ∈ is, q.1 < X.N.length) (ha : PA X es (lR X.K ad xr W (evs G C cs)))
    (h : ∀ t, PA X es t → PS X st (L2.tAsg (L2.tTup t) (gTg X.K (.tp (is.map (·.1)))))) : PS X st (sR X.K ad xr W A (ex1 G C (.par is cs))) :=
  PS.imp (h _ ha) fun D σ H hlen ⟨τ, Ss, R, q⟩ => u_tup hn ⟨τ, Ss, R, by
    rw [ex1] at q
    refine q.stepL fun xs τ2 vs H2 Ss2 Sls _ p w o c q2 => ?_
    refine ⟨(x_par_end hA (by rw [p.rel.len, hlen]; exact hi) p w o c q2).1, fun t ht => ?_⟩
    have g := Post.grow (K := X.K) (ad := ad) (σ := σ) p.rel (Grow.new (o := .tup vs) ht)
    exact (x_par_end hA (by rw [p.rel.len, hlen]; exact hi) (p.trans g) (w.after p.rel g) o c q2).2⟩ lR_mono
/-- a, b = e -/
theorem x_unp {is : List Nat} {tg : Expr} (hA : ∀ j ∈ is, j ∈ A) (hi : ∀ j ∈ is, j < X.N.length) (he : PE X e (eR X.K ad xr W (ev G C ce))) (h : ∀ te, PE X e te → PS X st (L2.tAsg te (gTg X.K (.tp is)))) : PS X st (sR X.K ad xr W A (ex1 G C (.unp is ce))) :=
  PS.imp (h _ he) fun D σ H hlen ⟨τ, Ss, R, q⟩ => by
    rw [ex1] at q
    refine ⟨τ, Ss, R, q.step fun y τ1 v H1 Ss1 S _ p w o q1 => ?_⟩
    cases e1 : putTg (.tp is) y.1 τ1 with
    | none => rw [e1] at q1; exact q1.elim
    | some s2 =>
      rw [e1] at q1
      refine put_tg p w.sh o.sh (by rw [p.rel.len, hlen]; exact hi) e1 fun σ' Ss' hσ _ _ p' => ?_
      exact q1 σ' H1 Ss' p' ⟨by rw [← p'.rel.len, putTg_length e1, p.rel.len], fun j hj => hσ j fun z => hj (hA j z)⟩
/-- x op= e -/
theorem iop_sound {K : PySem.W.Frag} {H : Hp} {a b z : T} {v w : V} {S1 S2 : List Addr} {Q : VK} {op : Operator} {o : O2} (ho : iop op = some o) (hk : augOk a b = true) (h : o2 o a b = some z) (r1 : Rep K ad H a v S1) (r2 : Rep K ad H b w S2) (q : ∀ v', Rep K ad H z v' [] → Q v' H) : r2I K o v w H Q := by
  cases op <;> simp only [iop, Option.some.injEq, reduceCtorEq] at ho <;> subst ho
  · unfold augOk at hk
    split at hk
    · rename_i i j
      rw [Rep.int_iff] at r1 r2
      simp only [o2, addT, Option.some.injEq] at h
      subst h
      exact .inl ⟨i, j, r1.1, r2.1, q _ (by rw [Rep]; exact ⟨rfl, rfl⟩)⟩
    · rename_i x y
      rw [Rep] at r1 r2
      simp only [o2, addT] at h
      split at h
      · rename_i hl
        cases h
        exact .inr ⟨x, y, r1.1, r2.1, hl, q _ (by rw [Rep]; exact ⟨rfl, rfl⟩)⟩
      · cases h
    · cases hk
  · unfold augOk at hk
    split at hk
    · rename_i i j
      rw [Rep.int_iff] at r1 r2
      simp only [o2, Option.some.injEq] at h
      subst h
      exact ⟨i, j, r1.1, r2.1, q _ (by rw [Rep]; exact ⟨rfl, rfl⟩)⟩
    · simp [o2] at h
    · cases hk
theorem x_aug {op : Operator} {o : O2} (hA : i ∈ A) (hi : i < X.N.length) (ho : iop op = some o) (he : PE X e (eR X.K ad xr W (ev G C ce))) (h : ∀ te ti, PE X e te → OpR X (PySem.inplaceOp op) ti → PS X st (L2.tAug i te ti)) : PS X st (sR X.K ad xr W A (ex1 G C (.aug i o ce))) :=
  PS.imp (h _ _ he (iop_ok ho)) fun D σ H hlen ⟨τ, Ss, R, q⟩ => by
    rw [ex1] at q
    split at q
    case isFalse => exact q.elim
    rename_i hsm
    obtain ⟨⟨u0, w0⟩, e0⟩ := Option.isSome_iff_exists.mp hsm
    obtain ⟨v0, hv, _, _⟩ := R.get e0
    refine ⟨v0, hv, τ, Ss, R, q.step fun y τ1 v H1 Ss1 S _ p w og q1 => ?_⟩
    split at q1
    · rename_i t hr
      split at q1
      · rename_i hk
        split at q1
        · rename_i z hz
          obtain ⟨v1, hv1, r1, _⟩ := p.rel.get hr
          rw [hv] at hv1; cases hv1
          refine iop_sound ho hk hz r1 w.rep fun v' r' => ?_
          exact q1 _ H1 _ (p.put (w := .sh) (o := false) (Val.plain r') Org.nil (by rw [p.rel.len, hlen]; exact hi) (.inl rfl)) (fr_set hA)
        · exact q1.elim
      · exact q1.elim
    · exact q1.elim
/-- raise C(..) of a class without fields -/
theorem x_rais {c : Nat} {cls : Value} (hx : ∀ H, xr c [] cls none H) (h : PS X st (fun _ σ H => W cls none σ H)) : PS X st (sR X.K ad xr W A (ex1 G C (.rais c []))) :=
  PS.imp h fun D σ H hlen ⟨τ, Ss, R, q⟩ => by
    rw [ex1, evs] at q
    exact q cls none σ H Ss (Post.refl R) (Fr.refl A σ) (hx H)
/-- try, clauses without names -/
theorem wMany_of {l : List (Value × (Addr → Value → Option Addr → TS))} {hs : List (Nat × Option Nat × List S)} {D : Ends} {τ τ1 : Sl} {σ σ1 : St} {H H1 : Hp} {Ss Ss1 : Nat → List Addr} {c : Nat} {fs : List T} {cls : Value} {d : Option Addr} (p : Post X.K ad τ σ1 H Ss τ1 H1 Ss1) (fr : Fr A σ σ1)
    (hl : All2 (fun x y => x.2.1 = none ∧ (∀ c fs cls d H, xr c fs cls d H → PySem.W.exmOne X.K cls y.1 = some (G.sub c x.1)) ∧ ∀ a cls d, y.2 a cls d = sR X.K ad xr W0 A (exs G C x.2.2)) hs l) (hx : xr c fs cls d H1)
    (q : OutF X.K ad xr W A τ σ H Ss D (hdl G C hs c fs τ1)) : L2.wMany X.K W D l cls d σ1 H1 := by
  induction hl with
  | nil =>
    rw [hdl] at q
    exact q cls d σ1 H1 Ss1 p fr hx
  | @cons x y hs l h _ ih =>
    obtain ⟨d', nm, b⟩ := x
    obtain ⟨cv, ts⟩ := y
    obtain ⟨h1, h2, h3⟩ := h
    simp only at h1
    subst h1
    rw [hdl] at q
    refine ⟨G.sub c d', h2 c fs cls d H1 hx, fun hb a ha => ?_, fun hb => ?_⟩
    · rw [if_pos hb] at q
      show ts a cls d D σ1 H1
      rw [show ts a cls d = sR X.K ad xr W0 A (exs G C b) from h3 a cls d]
      refine ⟨τ1, Ss1, p.rel, ?_⟩
      cases e : exs G C b τ1 with
      | nx s => rw [e] at q; exact fun σ2 H2 Ss2 p2 f2 => q σ2 H2 Ss2 (p.trans p2) (fr.trans f2)
      | rt t o s => rw [e] at q; exact fun v σ2 H2 Ss2 S p2 f2 w og => q v σ2 H2 Ss2 S (p.trans p2) (fr.trans f2) w (og.before p)
      | ex c fs s => rw [e] at q; exact q.elim
      | bad => rw [e] at q; exact q.elim
    · rw [hb, if_neg (by simp)] at q
      exact ih q
theorem x_tr {cb : List S} {hs : List (Nat × Option Nat × List S)} {l : List (Value × (Addr → Value → Option Addr → TS))}
    (h : PS X st (fun D σ H => sR X.K ad xr (L2.wMany X.K W D l) A (exs G C cb) D σ H))
    (hl : All2 (fun x y => x.2.1 = none ∧ (∀ c fs cls d H, xr c fs cls d H → PySem.W.exmOne X.K cls y.1 = some (G.sub c x.1)) ∧ ∀ a cls d, y.2 a cls d = sR X.K ad xr W0 A (exs G C x.2.2)) hs l) : PS X st (sR X.K ad xr W A (ex1 G C (.tr cb hs))) :=
  PS.imp h fun D σ H hlen ⟨τ, Ss, R, q⟩ => by
    rw [ex1] at q
    refine ⟨τ, Ss, R, ?_⟩
    cases e : exs G C cb τ with
    | nx s => rw [e] at q; exact q
    | rt t o s => rw [e] at q; exact q
    | ex c fs s => rw [e] at q; exact fun cls d σ' H' Ss' p fr x => wMany_of p fr hl x q
    | bad => rw [e] at q; exact q
end
end M
end

section
set_option Elab.async false
set_option autoImplicit false
set_option linter.all false
set_option maxRecDepth 100000
set_option maxHeartbeats 2000000
/-! SoundO2: sorted of rows and lists of data; split. -/
namespace MS
open PySem PySem.Spec PyProof.Rows PySem.Calls PySem.W
section
variable {prog : Program} {w : World} {A : Around} {E : Value → Shared → Prop} {s : Shared}
/-- a tuple's items, gathered -/
theorem collect_tup {l : Addr} {vs : List Value} {Q : List Value → Shared → Prop} (hl : s.heap.IsTuple l vs.toArray)
    (h : Q vs { s with heap := (s.heap.push (seqObj "list" #[] 0)).update s.heap.objs.size (Obj.mapSeq (· ++ vs.toArray)) }) (hsz : vs.length ≤ sizeLine) :
    wpAny (model prog w) A (collect (.ref l)) Q E s := by
  obtain ⟨o, ho, hc, n, hd⟩ := id hl
  unfold collect
  refine wpAny_bind (wpAny_runValue (codeAny_builtin entry_proto_collect' ?_))
  show wpAny _ _ (do again (.builtin "list.__iadd__" ⟨[← newList [], .ref l], []⟩)) _ _ s
  refine wpAny_bind (wpAny_newList (wpAny_pure ⟨Code.quiet_builtin _ (by decide +kernel), codeAny_builtin entry_list_iadd' ?_⟩))
  show wpAny _ _ (Builtin.List.listExtendWith (.ref s.heap.objs.size) (.ref l) (.ref s.heap.objs.size)) _ _ { s with heap := s.heap.push (seqObj "list" #[] 0) }
  unfold Builtin.List.listExtendWith
  have ho' : (s.heap.push (seqObj "list" #[] 0)).get? l = some o := Heap.get?_push_of_some _ ho
  refine wpAny_bind (wpAny_typeOf (T := "tuple") ⟨o, ho', hc⟩ ?_)
  have ht : (Value.type "tuple" == Value.type "tuple") = true := by rfl
  rw [if_pos (by rw [ht]; simp)]
  refine wpAny_bind (listItems_at ho' hd ?_)
  refine wpAny_bind (listItems_at (xs := #[]) (n := 0) (Heap.get?_push_size _ rfl) rfl ?_)
  rw [if_neg (by simp)]
  refine wpAny_bind (listUpdate_at (xs := #[]) (n := 0) (Heap.get?_push_size _ rfl) rfl ?_ (Nat.zero_le _) (by show (#[] ++ vs.toArray).size ≤ sizeLine + 1; simp only [Array.size_append, List.size_toArray, List.length_nil]; omega))
  refine wpAny_pure ?_
  show wpAny (model prog w) A (do
      let o ← load s.heap.objs.size
      match o.data with
      | .seq xs _ => pure xs.toList
      | _ => unsupported "internal:collect") Q E { s with heap := (s.heap.push (seqObj "list" #[] 0)).update s.heap.objs.size (Obj.mapSeq (· ++ vs.toArray)) }
  refine wpAny_bind (wpAny_load (get?_update_seq (Heap.get?_push_size _ rfl) _) ?_)
  show wpAny _ _ (pure ((#[] : Array Value) ++ vs.toArray).toList) Q E _
  rw [show ((#[] : Array Value) ++ vs.toArray).toList = vs by simp]
  exact wpAny_pure h
theorem sorted_of_sortT {l : Addr} {vs : List Value} {kw : List (Str × Value)} {Q : Value → Shared → Prop} (hl : s.heap.IsTuple l vs.toArray) (hL : vs.length ≤ sizeLine) (ha1 : argsOk "sorted" ⟨[.ref l], kw⟩) (ha2 : ∀ x, argsOk "list.sort" ⟨[.ref x], kw⟩)
    (body : ∀ E' : Value → Shared → Prop, wpAny (model prog w) A.in1.in1 (Builtin.«list.sort» ⟨[.ref (s.heap.objs.size + 1)], kw⟩) (fun f s' => f = .done (.ret .none) ∧ Q (.ref (s.heap.objs.size + 1)) s') E' { s with heap := copyHeap s.heap vs }) :
    wpAny (model prog w) A (call (.builtin "sorted") [.ref l] kw) Q E s := by
  refine call_function_entry_kw kind_sorted plain_sorted entry_sorted ha1 ?_
  unfold Builtin.«sorted»
  refine wpAny_bind (m := checkCount "sorted" 1 1 _) (wpAny_pure ?_)
  refine wpAny_bind (collect_tup hl ?_ hL)
  refine wpAny_bind (wpAny_newList ?_ hL)
  have hsz : ((s.heap.push (seqObj "list" #[] 0)).update s.heap.objs.size (Obj.mapSeq (· ++ vs.toArray))).objs.size = s.heap.objs.size + 1 := by
    rw [Heap.size_update, size_push']
  show wpAny _ _ _ _ _ { s with heap := copyHeap s.heap vs }
  rw [hsz]
  refine wpAny_bind (wpAny_holding (wpAny_call_entry_kw slot_list_sort ⟨_, copyHeap_at s.heap vs, rfl⟩ entry_list_sort ?body (ha2 _)))
  case body =>
    show wpAny (model prog w) A.in1.in1 (Builtin.«list.sort» ⟨[.ref (s.heap.objs.size + 1)], kw⟩) _ _ _
    refine wpAny_mono (body _) (fun f s' hf => ?_) fun _ _ e => e
    obtain ⟨rfl, hq⟩ := hf
    exact ⟨_, rfl, wpAny_pure ⟨_, rfl, hq⟩⟩
variable {β : Type} {vs : List Value} {bs : List β} {enc : β → PyData} {R : Value → β → Prop}
theorem sorted_dataT {l : Addr} {Q : Value → Shared → Prop} (hl : s.heap.IsTuple l vs.toArray) (e : EachIs R vs bs) (er : EachIs (fun v b => ∃ as, Reads s.heap v (enc b) as) vs bs) (hal : AllAlike (bs.map enc)) (hk : Sortable (bs.map enc)) (hL : bs.length ≤ sizeLine)
    (hu : ∀ b, b ∈ bs → A.units + 2 + (enc b).depth < cLine) (h : ∀ out, out.length = bs.length → EachIs R out (bs.mergeSort (dataLe false enc)) → Q (.ref (s.heap.objs.size + 1)) { s with heap := sortedAll s.heap vs (List.toArray out) }) :
    wpAny (model prog w) A (call (.builtin "sorted") [.ref l]) Q E s := by
  have er' : EachIs (fun v b => ∃ as, Reads (sortingHeap (copyHeap s.heap vs) (s.heap.objs.size + 1) vs) v (enc b) as) vs bs := er.mono fun _ _ ⟨as, r⟩ => ⟨as, PyProof.Rows.Reads.keeps (fun _ _ => sorting_copy_old) r⟩
  have hL' : vs.length ≤ sizeLine := by rw [e.length]; exact hL
  have S := SortsAt.data (prog := prog) (w := w) (A := A.in1.in1) (s := { s with heap := sortingHeap (copyHeap s.heap vs) (s.heap.objs.size + 1) vs }) (each_map (R := fun v d => ∃ as, Reads (sortingHeap (copyHeap s.heap vs) (s.heap.objs.size + 1) vs) v d as) enc er') hal hk (bound_map hu)
  exact sorted_of_sortT hl hL' (args_sorted1 _) (fun _ => args_list_sort _) fun _ => list_sort_vals (s := { s with heap := copyHeap s.heap vs }) (copyHeap_at s.heap vs) S hL' ⟨rfl, h _ (by rw [sortVals_length false rfl]; exact e.length) (sortVals_data false e er' hal)⟩
end
end MS

namespace M
open PySem (Addr Str PyData Operator CmpOp UnaryOp Value Expr Stmt Scope NameKind ExceptHandler)
open L2 (V Hp HO SqT SqL Rd upd upd_same upd_ne St VK XK WX TE TT TA TG TGs TI TS It R2 OpR UnR CallR Dp DpAll rI0 rI Cx Room TruV PE PT PW PA PG PGs PI PTs PS PSs PMk Ends Inv Vis Loc Gl Takes Sp FnOk Binds)
open PySem.W (EachIs AllAlike Sortable dataLe)
/-- sorted(x), x a list or tuple of data that is alike -/
def rSrt (K : PySem.W.Frag) : RC := fun vs H Q => ∃ (a : Addr) (xs : List V) (ts : List T), vs = [.ref a] ∧ (SqL K H a xs ∨ SqT K H a xs) ∧ xs.length = ts.length ∧ (∀ p ∈ xs.zip ts, Dp K H p.1 p.2.dat ∧ p.2.dat.depth ≤ 60) ∧ AllAlike (ts.map T.dat) ∧ Sortable (ts.map T.dat) ∧
  ∀ q, H q = none → Q (.ref q) (upd H q (.lst (((xs.zip ts).mergeSort (dataLe false fun p => p.2.dat)).map (·.1))))
theorem zip_snd : ∀ {xs : List V} {ts : List T}, xs.length = ts.length → (xs.zip ts).map (·.2) = ts
  | [], [], _ => rfl
  | [], _ :: _, h => by simp at h
  | _ :: _, [], h => by simp at h
  | x :: xs, t :: ts, h => by rw [List.zip_cons_cons, List.map_cons, zip_snd (by simpa using h)]
theorem each_zip {R : Value → V × T → Prop} : ∀ {xs : List V} {us : List Value} {ts : List T}, L2.Vals xs us → xs.length = ts.length → (∀ u x t, L2.RelV x u → (x, t) ∈ xs.zip ts → R u (x, t)) → EachIs R us (xs.zip ts)
  | [], [], [], _, _, _ => .nil
  | [], [], _ :: _, _, h, _ => by simp at h
  | x :: xs, u :: us, [], _, h, _ => by simp at h
  | x :: xs, u :: us, t :: ts, .cons r rr, h, k => by
    rw [List.zip_cons_cons]
    exact .cons (k u x t r (by simp)) (each_zip rr (by simpa using h) fun u x t r m => k u x t r (by rw [List.zip_cons_cons]; exact List.mem_cons_of_mem _ m))
theorem vals_each : ∀ {us : List Value} {ps : List (V × T)}, EachIs (fun u p => L2.RelV p.1 u) us ps → L2.Vals (ps.map (·.1)) us
  | _, _, .nil => .nil
  | _, _, .cons h r => .cons h (vals_each r)
theorem cr_srt {X : Cx} {k : Nat} (hr : Room k X.A) : CallR X (.builtin "sorted") (rSrt X.K) := by
  intro pins s σ H vs us Q I r h
  obtain ⟨a, xs, ts, rfl, hs, hl, hd, ha, hk, q⟩ := h
  rw [L2.Vals.ref1 r]
  have hu := hr.un
  have go : ∀ (its : List Value) (rv : L2.Vals xs its) (hz : xs.length ≤ PySem.sizeLine),
      ((∀ out : List Value, out.length = (xs.zip ts).length → EachIs (fun u p => L2.RelV p.1 u) out ((xs.zip ts).mergeSort (dataLe false fun p => p.2.dat)) → L2.EP X pins σ Q (.ref (s.heap.objs.size + 1)) { s with heap := PyProof.Rows.sortedAll s.heap its (List.toArray out) }) → PySem.wpAny (PySem.model X.prog X.w) X.A (PySem.call (.builtin "sorted") [.ref a]) (L2.EP X pins σ Q) X.xe s) → PySem.wpAny (PySem.model X.prog X.w) X.A (PySem.call (.builtin "sorted") [.ref a]) (L2.EP X pins σ Q) X.xe s := fun its rv hz f => f fun out h1 h2 => by
    obtain ⟨ep, he'⟩ := PyProof.Rows.sortedAll_at s.heap its out.toArray
    have hv := vals_each h2
    have hlen : (((xs.zip ts).mergeSort (dataLe false fun p => p.2.dat)).map (·.1)).length ≤ PySem.sizeLine := by
      rw [List.length_map, List.length_mergeSort, List.length_zip]; omega
    exact ⟨.ref _, upd H (s.heap.objs.size + 1) (.lst (((xs.zip ts).mergeSort (dataLe false fun p => p.2.dat)).map (·.1))), I.laid (t' := s.toks) (fun _ _ => PyProof.Rows.sortedAll_old) (Nat.le_succ _) ⟨hlen, out, ep, hv, he'⟩, rfl, q _ (I.hok.fresh (Nat.le_succ _))⟩
  have e1 : ∀ (its : List Value), L2.Vals xs its → EachIs (fun u p => L2.RelV p.1 u) its (xs.zip ts) := fun its rv => each_zip rv hl fun u x t r _ => r
  have e2 : ∀ (its : List Value), L2.Vals xs its → EachIs (fun v (b : V × T) => ∃ as, PySem.Reads s.heap v b.2.dat as) its (xs.zip ts) := fun its rv => each_zip rv hl fun u x t r m => L2.Dp.reads I _ _ _ (hd _ m).1 r
  have m1 : ((xs.zip ts).map fun b => b.2.dat) = ts.map T.dat := by
    have := zip_snd hl
    rw [← this, List.map_map, this]; rfl
  have hlz : (xs.zip ts).length = xs.length := by rw [List.length_zip]; omega
  rcases hs with hs | hs
  · obtain ⟨its, rv, pl, hz⟩ := I.list hs
    exact go its rv hz fun f => PySem.W.sorted_data pl.isList (e1 its rv) (e2 its rv) (by rw [m1]; exact ha) (by rw [m1]; exact hk) (by rw [hlz]; exact hz) (fun b hb => by have := (hd b hb).2; omega) f
  · obtain ⟨its, rv, pl, hz⟩ := I.tuple hs
    exact go its rv hz fun f => MS.sorted_dataT (show s.heap.IsTuple a its.toArray from pl) (e1 its rv) (e2 its rv) (by rw [m1]; exact ha) (by rw [m1]; exact hk) (by rw [hlz]; exact hz) (fun b hb => by have := (hd b hb).2; omega) f
section
variable {K : PySem.W.Frag} {ad : Nat → Addr} {H : Hp}
/-- rows without lists, one by one -/
theorem repL_of : ∀ {ps : List (V × T)}, (∀ p ∈ ps, Rep K ad H p.2 p.1 []) → RepL K ad H (ps.map (·.2)) (ps.map (·.1)) []
  | [], _ => RepL.nil
  | p :: ps, h => RepL.cons (S1 := []) (S2 := []) (h p (by simp)) (repL_of fun q hq => h q (by simp [hq]))
theorem repL_each : ∀ {ts : List T} {vs : List V} {S : List Addr}, RepL K ad H ts vs S → T.lfL ts = true → ∀ p ∈ vs.zip ts, Rep K ad H p.2 p.1 []
  | [], vs, _, h, _, p, hp => by simp at hp
  | t :: ts, vs, _, h, hl, p, hp => by
    rw [RepL] at h
    obtain ⟨v, vs', S1, S2, e, es, r, rr⟩ := h
    subst e es
    rw [T.lfL, Bool.and_eq_true] at hl
    rw [List.zip_cons_cons] at hp
    rcases List.mem_cons.mp hp with z | z
    · subst z
      have := r.lf hl.1
      subst this
      exact r
    · exact repL_each rr hl.2 p z
theorem pdL_mem : ∀ {n : Nat} {ts : List T} {t : T}, T.pdL n ts = true → t ∈ ts → t.pd n = true
  | n, u :: ts, t, h, hm => by
    rw [T.pdL, Bool.and_eq_true] at h
    rcases List.mem_cons.mp hm with e | e
    · subst e; exact h.1
    · exact pdL_mem h.2 e
theorem srt_sound {a z : T} {v : V} {S : List Addr} {Q : VK} (h : o1 .sorted a = some z) (r : Rep K ad H a v S) (q : OpP K ad H .fresh z S Q) : rSrt K [v] H Q := by
  have main : ∀ (xs : List T) (p : Addr) (vs : List V) (S' : List Addr), (∀ x ∈ S', x ∈ S) → v = .ref p → (SqL K H p vs ∨ SqT K H p vs) → RepL K ad H xs vs S' → (sorT xs).map T.lst = some z → rSrt K [v] H Q := fun xs p vs S' hS e hsq rl hz => by
    obtain ⟨ys, hy, ez⟩ := Option.map_eq_some_iff.mp hz
    subst ez e
    unfold sorT at hy
    split at hy
    · rename_i hc
      cases hy
      simp only [Bool.and_eq_true, decide_eq_true_eq, List.all_eq_true, Bool.or_eq_true] at hc
      obtain ⟨⟨⟨⟨h1, h2⟩, h3⟩, h4⟩, h5⟩ := hc
      have each := repL_each rl h2
      have hl := rl.length.symm
      have mem : ∀ p ∈ vs.zip xs, p.2 ∈ xs := fun p hp => (List.of_mem_zip hp).2
      refine ⟨p, vs, xs, rfl, hsq, hl, fun b hb => ?_, fun d hd d' hd' => ?_, ?_, fun c hc => ?_⟩
      · obtain ⟨k1, _, k3⟩ := (each b hb).dp (pdL_mem h1 (mem b hb))
        exact ⟨k1, by omega⟩
      · obtain ⟨t, ht, rfl⟩ := List.mem_map.mp hd
        obtain ⟨t', ht', rfl⟩ := List.mem_map.mp hd'
        exact h3 t ht t' ht'
      · rcases h4 with h4 | h4
        · left
          intro d hd
          obtain ⟨t, ht, rfl⟩ := List.mem_map.mp hd
          have := h4 t ht
          unfold T.row at this
          split at this
          · rename_i y ys; exact ⟨y.dat, T.datL ys, rfl⟩
          · cases this
        · right
          intro d hd
          obtain ⟨t, ht, rfl⟩ := List.mem_map.mp hd
          have := h4 t ht
          have hp := pdL_mem h1 ht
          cases t <;> simp [T.atom] at this <;> first | (simp [T.pd] at hp; done) | (constructor <;> simp [T.dat])
      · have ez : (xs.mergeSort leT) = ((vs.zip xs).mergeSort (dataLe false fun p => p.2.dat)).map (·.2) := by
          rw [List.map_mergeSort (r := dataLe false fun p : V × T => p.2.dat) (s := leT) fun a _ b _ => rfl, zip_snd hl]
        have rr : RepL K ad H (xs.mergeSort leT) (((vs.zip xs).mergeSort (dataLe false fun p => p.2.dat)).map (·.1)) [] := by
          rw [ez]
          exact repL_of fun p hp => each p (List.mem_mergeSort.mp hp)
        exact q.lst rr (by simp) hc
    · cases hy
  cases a <;> simp only [o1, reduceCtorEq] at h
  case tup xs =>
    rw [Rep.tup_iff] at r
    obtain ⟨p, vs, e, t, l⟩ := r
    exact main xs p vs S (fun _ h => h) e (.inr t) l h
  case lst xs =>
    rw [Rep.lst_iff] at r
    obtain ⟨p, vs, S', e, t, es, l⟩ := r
    exact main xs p vs S' (fun x hx => by rw [es]; simp [hx]) e (.inl (SqL.of t)) l h
end
section
variable {X : Cx} {ad : Nat → Addr} {xr : Nat → List T → Value → Option Addr → Hp → Prop} {W : WX} {G : Pg} {C : Nat → List T → CR} {pos p1 p2 p3 : PySem.Pos} {a b : Expr} {ca cb : E} {k : Nat}
theorem p_sorted (hr : Room k X.A) (hs : isStar a = false) (g1 : Gl X "sorted") (m1 : X.mg "sorted" = none) (ha : PE X a (agR X.K ad xr W fun s => ag ca (ev G C ca s) s)) : PE X (.Call (.Name "sorted" p1) [a] [] pos) (eR X.K ad xr W (ev G C (.op1 .sorted ca))) :=
  s_op1 (ta := fun _ _ _ => True) (r := fun x H Q => rSrt X.K [x] H Q) (fun ta h => L2.pe_callB (cr_srt hr) g1 m1 (by decide +kernel) (L2.pa_cons h L2.pa_nil (star_cons hs)) (by decide) (by decide) (star_cons hs) rfl) ha fun {H t z v S Q} hz r q => srt_sound hz r q
theorem strs_rep {K : PySem.W.Frag} {H : Hp} : ∀ (ys : List Str), RepL K ad H (ys.map T.str) (ys.map V.str) []
  | [] => RepL.nil
  | y :: ys => RepL.cons (S1 := []) (S2 := []) (by rw [Rep]; exact ⟨rfl, rfl⟩) (strs_rep ys)
theorem p_split {sep : Str} {j : Nat} {p4 : PySem.Pos} (hc : ∀ f as ks p, a ≠ .Call f as ks p) (hl : (p2.endLine == p3.line) = true) (ha : PE X a (agR X.K ad xr W fun s => ag ca (ev G C ca s) s)) :
    PE X (.Call (.Attribute a "split" p2) [.Constant (.str sep) j p4] [] p3) (eR X.K ad xr W (ev G C (.op1 (.split sep) ca))) :=
  s_op1 (ta := fun _ _ _ => True) (r := fun x H Q => L2.tyV X.K "str" x H ∧ ∃ a b, x = .str a ∧ [V.str sep] = [.str b] ∧ (b.length == 0) = false ∧ a.length + 2 ≤ PySem.sizeLine ∧ L2.rNewStrs (PySem.Txt.split a b) H Q)
    (fun ta h => L2.pe_bm PySem.F.plainAttrs_str PySem.F.slot_str_split PySem.F.type_str_split L2.mt_split h (L2.pa_cons L2.pe_str L2.pa_nil rfl) (by cases a <;> first | rfl | exact absurd rfl (hc _ _ _ _)) (few_one rfl) hl rfl rfl) ha fun {H t z v S Q} hz r q => by
    cases t <;> simp only [o1, reduceCtorEq] at hz
    rename_i x
    split at hz
    · rename_i hh
      cases hz
      rw [Rep] at r
      obtain ⟨r1, r2⟩ := r
      subst r1 r2
      refine ⟨rfl, x, sep, rfl, rfl, hh.1, by rw [LIM_eq]; exact hh.2, fun p hp => ?_⟩
      exact OpP.lstP (S := []) q (strs_rep _) hp
    · cases hz
end
end M
end

section
set_option Elab.async false
set_option autoImplicit false
set_option linter.all false
set_option maxRecDepth 100000
set_option maxHeartbeats 2000000
/-! SoundP: each form of expression with its reading. -/
namespace M
open PySem (Addr Str PyData Operator CmpOp UnaryOp Value Expr Stmt Scope NameKind ExceptHandler)
open L2 (V Hp HO SqT SqL Rd upd upd_same upd_ne St VK XK WX TE TT TA TG TGs TI TS It R2 OpR UnR CallR Dp DpAll rI0 rI Cx Room TruV PE PT PW PA PG PGs PI PTs PS PSs PMk Ends Inv Vis Loc Gl Takes Sp FnOk Binds)
section
variable {X : Cx} {ad : Nat → Addr} {xr : Nat → List T → Value → Option Addr → Hp → Prop} {W : WX} {G : Pg} {C : Nat → List T → CR} {pos p1 p2 p3 : PySem.Pos} {a b c e : Expr} {ca cb cc : E} {i : Nat} {x : Str}
/-- an argument's reading -/
abbrev PAg (X : Cx) (ad : Nat → Addr) (xr : Nat → List T → Value → Option Addr → Hp → Prop) (W : WX) (G : Pg) (C : Nat → List T → CR) (c : E) (e : Expr) : Prop := PE X e (agR X.K ad xr W fun s => ag c (ev G C c s) s)
theorem p_neg (ha : PAg X ad xr W G C ca a) : PE X (.UnaryOp .USub a pos) (eR X.K ad xr W (ev G C (.op1 .neg ca))) :=
  s_op1 (ta := fun _ _ _ => True) (fun ta h => L2.pe_un L2.un_neg h) ha fun {H t z v S Q} hz r q => by
    cases t <;> simp only [o1, Option.some.injEq, reduceCtorEq] at hz
    subst hz
    rw [Rep.int_iff] at r
    exact ⟨_, r.1, q.int⟩
theorem p_inv (ha : PAg X ad xr W G C ca a) : PE X (.UnaryOp .Invert a pos) (eR X.K ad xr W (ev G C (.op1 .inv ca))) :=
  s_op1 (ta := fun _ _ _ => True) (fun ta h => L2.pe_un L2.un_inv h) ha fun {H t z v S Q} hz r q => by
    cases t <;> simp only [o1, Option.some.injEq, reduceCtorEq] at hz
    subst hz
    rw [Rep.int_iff] at r
    exact ⟨_, r.1, q.int⟩
theorem non_of {H : Hp} {t z : T} {v : V} {S : List Addr} (hz : o1 .isN t = some z) (r : Rep X.K ad H t v S) : z = .bl (decide (v = .non)) := by
  cases t <;> simp only [o1, Option.some.injEq, reduceCtorEq] at hz <;> subst hz <;> rw [Rep] at r
  · rw [r.1]; simp
  · rw [r.1]; simp
  · rw [r.1]; simp
  · rw [r.1]; simp
  · obtain ⟨_, _, e, _⟩ := r; rw [e]; simp
  · obtain ⟨_, _, _, e, _⟩ := r; rw [e]; simp
theorem notN_eq {t : T} : o1 .notN t = (o1 .isN t).map fun z => match z with | .bl b => .bl (!b) | z => z := by
  cases t <;> rfl
theorem p_isN {j p'} (ha : PAg X ad xr W G C ca a) : PE X (.Compare a [.Is] [.Constant .none j p'] pos) (eR X.K ad xr W (ev G C (.op1 .isN ca))) :=
  s_op1 (ta := fun _ _ _ => True) (r := fun x H Q => V.non = .non ∧ Q (.bl (decide (x = .non))) H) (fun ta h => L2.pe_cmpR L2.op_isN h L2.pe_non (L2.nomark _)) ha fun {H t z v S Q} hz r q => by
    rw [non_of hz r] at q
    exact ⟨rfl, q.bl⟩
theorem p_notN {j p'} (ha : PAg X ad xr W G C ca a) : PE X (.Compare a [.IsNot] [.Constant .none j p'] pos) (eR X.K ad xr W (ev G C (.op1 .notN ca))) :=
  s_op1 (ta := fun _ _ _ => True) (r := fun x H Q => V.non = .non ∧ Q (.bl (!decide (x = .non))) H) (fun ta h => L2.pe_cmpR L2.op_notN h L2.pe_non (L2.nomark _)) ha fun {H t z v S Q} hz r q => by
    rw [notN_eq] at hz
    obtain ⟨y, hy, ez⟩ := Option.map_eq_some_iff.mp hz
    rw [non_of hy r] at ez
    subst ez
    exact ⟨rfl, q.bl⟩
theorem p_isK {k : Ki} (hs : isStar a = false) (g1 : Gl X "isinstance") (m1 : X.mg "isinstance" = none) (hx : x = Str.ofString k.nm) (g2 : Gl X x) (m2 : X.mg x = none) (ha : PAg X ad xr W G C ca a) : PE X (.Call (.Name "isinstance" p1) [a, .Name x p2] [] pos) (eR X.K ad xr W (ev G C (.op1 (.isK k) ca))) :=
  s_op1 (ta := fun _ _ _ => True) (r := fun x H Q => L2.rIsi X.K [x, .ty k.nm] H Q) (fun ta h => L2.pe_callB L2.call_isi g1 m1 (by decide +kernel) (L2.pa_cons h (L2.pa_cons (L2.pe_bltn (v := .ty k.nm) (u := .type k.nm) g2 m2 (by subst hx; cases k <;> decide +kernel) rfl (by subst hx; cases k <;> decide +kernel) (by subst hx; cases k <;> decide +kernel)) L2.pa_nil) (star_cons hs)) (by decide) (by decide) (star_cons hs) rfl) ha fun {H t z v S Q} hz r q => by
    obtain ⟨y, hy, ez⟩ := Option.map_eq_some_iff.mp (show (t.isK k).map T.bl = some z from hz)
    subst ez
    exact isK_sound hy r q
theorem p_call1 {o : O1} {f : Value} (hc : X.calm = true) (hs : isStar a = false) (hn : nm1 o = some (x, f)) (g1 : Gl X x) (m1 : X.mg x = none) (ha : PAg X ad xr W G C ca a) : PE X (.Call (.Name x p1) [a] [] pos) (eR X.K ad xr W (ev G C (.op1 o ca))) := by
  obtain ⟨b1, b2, b3, b4⟩ := nm1_boot hn
  refine s_op1 (ta := fun _ _ _ => True) (r := fun x H Q => r1 X.K o [x] H Q) (fun ta h => ?_) ha fun {H t z v S Q} hz r q => c1_sound hn hz r q
  rcases b4 with ⟨id, e⟩ | ⟨t, e⟩
  · subst e
    exact L2.pe_callB (c1_ok hc hn) g1 m1 b1 (L2.pa_cons h L2.pa_nil (star_cons hs)) b2 b3 (star_cons hs) rfl
  · subst e
    exact L2.pe_callTy (c1_ok hc hn) g1 m1 b1 (L2.pa_cons h L2.pa_nil (star_cons hs)) b2 b3 (star_cons hs) rfl
theorem p_bin {op : Operator} {o : O2} (h : bop op = some o) (ha : PAg X ad xr W G C ca a) (hb : PAg X ad xr W G C cb b) : PE X (.BinOp a op b pos) (eR X.K ad xr W (ev G C (.op2 o ca cb))) :=
  s_op2 (fun ta tb h1 h2 => L2.pe_op (bop_ok h) h1 h2) ha hb fun {H t u z v w S S' Q} hz r1 r2 q => o2_sound (bop_read h) hz r1 r2 q
theorem p_cmp {k : Nat} (hr : Room k X.A) {op : CmpOp} {o : O2} (h : cop op = some o) (hm : PySem.behindInMarks op b = false) (ha : PAg X ad xr W G C ca a) (hb : PAg X ad xr W G C cb b) : PE X (.Compare a [op] [b] pos) (eR X.K ad xr W (ev G C (.op2 o ca cb))) :=
  s_op2 (fun ta tb h1 h2 => L2.pe_cmpR (cop_ok hr h) h1 h2 hm) ha hb fun {H t u z v w S S' Q} hz r1 r2 q => o2_sound (cop_read h) hz r1 r2 q
def isSlice : Expr → Bool
  | .Slice _ _ _ _ => true
  | _ => false
theorem plain_ix (h : isSlice b = false) : L2.PlainIx b := fun o i => by
  cases b <;> first | rfl | cases h
theorem p_idx (hs : isSlice b = false) (ha : PAg X ad xr W G C ca a) (hb : PAg X ad xr W G C cb b) : PE X (.Subscript a b pos) (eR X.K ad xr W (ev G C (.op2 .idx ca cb))) :=
  s_op2 (fun ta tb h1 h2 => L2.pe_ix L2.ix_seq h1 h2 (plain_ix hs)) ha hb fun {H t u z v w S S' Q} hz r1 r2 q => o2_sound rfl hz r1 r2 q
theorem OpP.left {H : Hp} {t : T} {S S' : List Addr} {Q : VK} (h : OpP X.K ad H .fresh t (S ++ S') Q) (e : S' = []) : OpP X.K ad H .fresh t S Q := by
  subst e; rw [List.append_nil] at h; exact h
theorem p_from {p'} (ha : PAg X ad xr W G C ca a) (hb : PAg X ad xr W G C cb b) : PE X (.Subscript a (.Slice (some b) none none p') pos) (eR X.K ad xr W (ev G C (.op2 .from ca cb))) :=
  s_op2 (r := fun x y H Q => ∃ i, y = .int i ∧ rSl X.K x (some i) none H Q) (fun ta tb h1 h2 => L2.pe_slice sl_ok h1 (L2.po_some h2) L2.po_none) ha hb fun {H t u z v w S S' Q} hz r1 r2 q => by
    cases u <;> simp only [o2, reduceCtorEq] at hz
    rw [Rep.int_iff] at r2
    exact ⟨_, r2.1, sl_sound hz r1 (OpP.left q r2.2)⟩
theorem p_upto {p'} (ha : PAg X ad xr W G C ca a) (hb : PAg X ad xr W G C cb b) : PE X (.Subscript a (.Slice none (some b) none p') pos) (eR X.K ad xr W (ev G C (.op2 .upto ca cb))) :=
  s_op2 (r := fun x y H Q => ∃ i, y = .int i ∧ rSl X.K x none (some i) H Q) (fun ta tb h1 h2 => L2.pe_slice sl_ok h1 L2.po_none (L2.po_some h2)) ha hb fun {H t u z v w S S' Q} hz r1 r2 q => by
    cases u <;> simp only [o2, reduceCtorEq] at hz
    rw [Rep.int_iff] at r2
    exact ⟨_, r2.1, sl_sound hz r1 (OpP.left q r2.2)⟩
/-- an operation of three values -/
theorem s_op3 {o : O3} {e : Expr} {r : V → V → V → Hp → VK → Prop} (h : ∀ ta tb tc : TE, PE X a ta → PE X b tb → PE X c tc → PE X e fun σ H Q => ta σ H fun x H1 => tb σ H1 fun y H2 => tc σ H2 fun z H3 => r x y z H3 Q) (ha : PAg X ad xr W G C ca a) (hb : PAg X ad xr W G C cb b) (hc : PAg X ad xr W G C cc c)
    (sound : ∀ {H : Hp} {t u u' z : T} {v w y : V} {S S' S'' : List Addr} {Q : VK}, o3 o t u u' = some z → Rep X.K ad H t v S → Rep X.K ad H u w S' → Rep X.K ad H u' y S'' → OpP X.K ad H o.rk z (S ++ S' ++ S'') Q → r v w y H Q) : PE X e (eR X.K ad xr W (ev G C (.op3 o ca cb cc))) := PE.imp (h _ _ _ ha hb hc) fun σ H Q ⟨τ, Ss, R, q⟩ => by
  rw [ev] at q
  refine ⟨τ, Ss, R, OutA.step (Post.refl R) q fun x τ1 v H1 Ss1 S _ p1 w1 o1' q1 => ?_⟩
  refine ⟨τ1, Ss1, p1.rel, OutA.step p1 q1 fun y τ2 u H2 Ss2 S' _ p2 w2 o2' q2 => ?_⟩
  split at q2
  case isFalse => exact q2.elim
  have p12 := p1.trans p2
  refine ⟨τ2, Ss2, p12.rel, OutA.step p12 q2 fun z τ3 u3 H3 Ss3 S3 _ p3 w3 o3' q3 => ?_⟩
  obtain ⟨t, u', u'', z', S1, S2, S4, r1, r2, r3, hz, op⟩ := Out.fin3 (p12.trans p3) ((w1.after p1.rel p2).after p12.rel p3) o1' (w2.after p12.rel p3) (o2'.before p1) w3 (o3'.before p12) q3
  exact sound hz r1 r2 r3 op
/-- the second value is an int -/
theorem pre_int {K : PySem.W.Frag} {o : O3} (ho : o ≠ .getd) {y : Ag} {τ2 : Sl} {σ : St} {H2 H : Hp} {Ss2 Ss : Nat → List Addr} {τ : Sl} {u : V} {S' : List Addr} (h : o.pre (y.get τ2) = true) (p : Post K ad τ σ H Ss τ2 H2 Ss2) (w : AV K ad τ2 σ H2 Ss2 y u S') (a : AO τ H Ss y S') : ∃ i, u = .int i ∧ y.get τ2 = some (.int i) := by
  cases e : y.get τ2 with
  | none => rw [e] at h; cases o <;> simp [O3.pre] at h ho
  | some t =>
    rw [e] at h
    obtain ⟨S1, r, _⟩ := w.get a p e
    cases t with
    | int i => rw [Rep.int_iff] at r; exact ⟨i, r.1, rfl⟩
    | _ => cases o <;> simp [O3.pre] at h ho
theorem p_cut {p'} (ha : PAg X ad xr W G C ca a) (hb : PAg X ad xr W G C cb b) (hc : PAg X ad xr W G C cc c) : PE X (.Subscript a (.Slice (some b) (some c) none p') pos) (eR X.K ad xr W (ev G C (.op3 .cut ca cb cc))) :=
  PE.imp (L2.pe_slice sl_ok ha (L2.po_some hb) (L2.po_some hc)) fun σ H Q ⟨τ, Ss, R, q⟩ => by
    rw [ev] at q
    refine ⟨τ, Ss, R, OutA.step (Post.refl R) q fun x τ1 v H1 Ss1 S _ p1 w1 o1' q1 => ?_⟩
    refine ⟨τ1, Ss1, p1.rel, OutA.step p1 q1 fun y τ2 u H2 Ss2 S' hy p2 w2 o2' q2 => ?_⟩
    split at q2
    case isFalse => exact q2.elim
    rename_i hpre
    have p12 := p1.trans p2
    obtain ⟨i, hi, _⟩ := pre_int (by simp) hpre p12 w2 (o2'.before p1)
    refine ⟨i, hi, τ2, Ss2, p12.rel, OutA.step p12 q2 fun z τ3 u3 H3 Ss3 S3 _ p3 w3 o3' q3 => ?_⟩
    obtain ⟨t, u', u'', z', S1, S2, S4, r1, r2, r3, hz, op⟩ := Out.fin3 (p12.trans p3) ((w1.after p1.rel p2).after p12.rel p3) o1' (w2.after p12.rel p3) (o2'.before p1) w3 (o3'.before p12) q3
    cases u' <;> simp only [o3, reduceCtorEq] at hz
    cases u'' <;> simp only [o3, reduceCtorEq] at hz
    rw [Rep.int_iff] at r2 r3
    rw [hi] at r2
    have e := r2.1
    cases e
    exact ⟨_, r3.1, sl_sound hz r1 (OpP.left (OpP.left op r3.2) r2.2)⟩
/-- len(a[i]) -/
theorem p_lenAt (h1 : isSlice b = false) (g : Gl X "len") (m : X.mg "len" = none) (hc : X.calm = true) (ha : PAg X ad xr W G C ca a) (hb : PAg X ad xr W G C cb b) : PE X (.Call (.Name "len" p1) [.Subscript a b p2] [] pos) (eR X.K ad xr W (ev G C (.op2 .lenAt ca cb))) :=
  s_op2 (r := fun x y H Q => M.r2 X.K .idx x y H fun z H1 => r1 X.K .len [z] H1 Q) (fun ta tb h3 h4 => L2.pe_callB (c1_ok hc (o := .len) rfl) g m (by decide +kernel) (L2.pa_cons (L2.pe_ix L2.ix_seq h3 h4 (plain_ix h1)) L2.pa_nil rfl) (by decide) (by decide) rfl rfl) ha hb fun {H t u z v w S S' Q} hz r1 r2 q => by
    obtain ⟨y, hy, hz⟩ := Option.bind_eq_some_iff.mp (show (idxT t u).bind lenT = some z from hz)
    refine o2_sound (o := .idx) (a := t) (b := u) (z := y) rfl hy r1 r2 fun v' H' S3 r3 g3 m3 _ => ?_
    refine c1_sound (o := .len) (z := z) rfl hz r3 fun w' H3 S4 r4 g4 m4 o4 => ?_
    have ez : S4 = [] := by
      unfold lenT at hz
      split at hz
      · cases hz; rw [Rep.int_iff] at r4; exact r4.2
      · cases hz; rw [Rep.int_iff] at r4; exact r4.2
      · cases hz; rw [Rep.int_iff] at r4; exact r4.2
      · split at hz
        · cases hz; rw [Rep.int_iff] at r4; exact r4.2
        · cases hz
      · cases hz
    subst ez
    exact q w' H3 [] r4 (g3.trans g4) (by simp) fun _ => ⟨List.nodup_nil, by simp⟩
/-! ### ranges -/
theorem walks_rng {K : PySem.W.Frag} (lo : Int) (n : Nat) : Walks K ad (L2.Itr lo n) ((List.range n).map fun (k : Nat) => T.int (lo + k)) [] (fun _ => True) where
  go := fun i H _ h => by
    have h' : i < n := by simpa using h
    exact h'
  stop := fun H _ => by simp [L2.Itr]
  yld := fun i H x H' _ h t ht => by
    obtain ⟨e1, e2⟩ := h
    subst e1
    refine ⟨Grow.refl _, [], ?_, by simp⟩
    rw [List.getElem?_map] at ht
    by_cases hi : i < n
    · rw [List.getElem?_range hi] at ht
      simp only [Option.map_some, Option.some.injEq] at ht
      subst ht
      rw [Rep]; exact ⟨e2, rfl⟩
    · rw [List.getElem?_eq_none (by simpa using hi)] at ht; cases ht
theorem srcE_rng {t : T} {o : Bool} {τ1 : Sl} : srcE ((fin1 .rng (.v t o) τ1).bind fun x s1 => .ok (.v x.1 x.2) s1) = match t with
    | .int n => if -RMAX ≤ n ∧ n ≤ LIM then .ok (rangeL 0 n, none) τ1 else .bad
    | _ => .bad := by
  cases t <;> try rfl
  rename_i n
  by_cases hn : -RMAX ≤ n ∧ n ≤ LIM
  · simp only [fin1, Ag.get, o1, hn, and_self, if_true, fin, Ag.isB, Bool.false_eq_true, if_false, Rv.bind, srcE, src, T.items, Option.map_some]
  · simp only [fin1, Ag.get, o1, hn, if_false, fin, Rv.bind, srcE]
theorem i_rng1 {tg : Expr} (hs : isStar a = false) (g : Gl X "range") (m : X.mg "range" = none) (ha : PE X a (eR X.K ad xr W (ev G C ca))) (hb : ca.asBrw = none) : PI X tg (.Call (.Name "range" p1) [a] [] pos) (iR X.K ad xr W fun s => srcE (ag (.op1 .rng ca) (ev G C (.op1 .rng ca) s) s)) :=
  ⟨fun pins s σ H R I q => (L2.pi_range1 g m (L2.pa_cons ha L2.pa_nil (star_cons hs)) (star_cons hs)).run pins s σ H R I (by
    obtain ⟨τ, Ss, Rl, q⟩ := q
    refine ⟨τ, Ss, Rl, ?_⟩
    have e0 : ag (.op1 .rng ca) (ev G C (.op1 .rng ca) τ) τ = ((ev G C ca τ).bind fun x s1 => (fin1 .rng (.v x.1 x.2) s1).bind fun x s1 => .ok (.v x.1 x.2) s1) := by
      have e1 : ev G C (.op1 .rng ca) τ = (ag ca (ev G C ca τ) τ).bind fun x s1 => fin1 .rng x s1 := by rw [ev]
      rw [e1]
      unfold ag
      rw [hb]
      cases ev G C ca τ <;> rfl
    replace q : OutI X.K ad xr W τ σ H Ss R (srcE (ag (.op1 .rng ca) (ev G C (.op1 .rng ca) τ) τ)) := q
    rw [e0] at q
    cases e : ev G C ca τ with
    | bad => rw [e] at q; exact q
    | ex c fs τ1 => rw [e] at q; exact q
    | ok y τ1 =>
      rw [e] at q
      obtain ⟨t, ow⟩ := y
      simp only [Rv.bind] at q
      have q := (show OutI X.K ad xr W τ σ H Ss R (srcE ((fin1 .rng (.v t ow) τ1).bind fun x s1 => .ok (.v x.1 x.2) s1)) from q)
      rw [srcE_rng] at q
      intro v H1 Ss1 S p w o
      have w' : Rep X.K ad H1 t v S := w.rep
      cases t with
      | int n =>
        rw [Rep.int_iff] at w'
        refine ⟨n, by rw [w'.1], ?_⟩
        simp only at q
        split at q
        · rename_i hn
          have h2 := hn.2
          have h1 := hn.1
          unfold RMAX at h1
          refine ⟨by omega, by unfold LIM at h2; omega, ?_⟩
          refine q _ H1 Ss1 [] _ p (by
            have := walks_rng (ad := ad) (K := X.K) 0 n.toNat
            have e4 : rangeL 0 n = (List.range n.toNat).map fun (k : Nat) => T.int (0 + k) := by unfold rangeL; rw [Int.sub_zero]
            rw [e4]; exact this) trivial (fun _ _ _ _ => trivial) (by simp) (fun i hi => by cases hi)
        · exact q.elim
      | _ => exact q.elim)⟩
/-! ### expressions that change nothing: ints -/
def pureC : E → Bool
  | .var _ => true
  | .con (.int _) => true
  | .op1 .neg a => (match a.asBrw with | none => pureC a | _ => false)
  | .op2 .add a b => (match a.asBrw with | none => pureC a | _ => false) && (match b.asBrw with | none => pureC b | _ => false)
  | .op2 .sub a b => (match a.asBrw with | none => pureC a | _ => false) && (match b.asBrw with | none => pureC b | _ => false)
  | .op2 .idx (.brw _) b => (match b.asBrw with | none => pureC b | _ => false)
  | _ => false
theorem fin_pure {k : Rk} {l : Bool} {z : Option T} {τ : Sl} : fin k l z τ = .bad ∨ ∃ x, fin k l z τ = .ok x τ := by
  unfold fin
  split
  · exact .inl rfl
  · split
    · split
      · exact .inr ⟨_, rfl⟩
      · exact .inl rfl
    · exact .inr ⟨_, rfl⟩
end
end M
end

section
set_option Elab.async false
set_option autoImplicit false
set_option linter.all false
set_option maxRecDepth 100000
set_option maxHeartbeats 2000000
/-! SoundQ: ints that change nothing; x[i][j]; x.pop. -/
namespace M
open PySem (Addr Str PyData Operator CmpOp UnaryOp Value Expr Stmt Scope NameKind ExceptHandler)
open L2 (V Hp HO SqT SqL Rd upd upd_same upd_ne St VK XK WX TE TT TA TG TGs TI TS It R2 OpR UnR CallR Dp DpAll rI0 rI Cx Room TruV PE PT PW PA PG PGs PI PTs PS PSs PMk Ends Inv Vis Loc Gl Takes Sp FnOk Binds)
section
variable {G : Pg} {C : Nat → List T → CR}
theorem ag_v {c : E} (h : c.asBrw = none) (r : Rv (T × Bool)) (s : Sl) : ag c r s = r.bind fun x s1 => .ok (.v x.1 x.2) s1 := by
  unfold ag; rw [h]
theorem ag_b {i : Nat} (r : Rv (T × Bool)) (s : Sl) : ag (.brw i) r s = if (rd s i).isSome then .ok (.b i) s else .bad := rfl
theorem pure_ev : ∀ (c : E), pureC c = true → ∀ τ, ev G C c τ = .bad ∨ ∃ x, ev G C c τ = .ok x τ
  | .var i, _, τ => by
    rw [ev]
    split
    · exact .inr ⟨_, rfl⟩
    · exact .inl rfl
  | .con t, _, τ => by rw [ev]; exact .inr ⟨_, rfl⟩
  | .op1 o a, h, τ => by
    cases o <;> simp only [pureC, Bool.false_eq_true] at h
    split at h
    · rename_i e
      rw [ev, ag_v e]
      rcases pure_ev a h τ with q | ⟨x, q⟩
      · rw [q]; exact .inl rfl
      · rw [q]
        show (fin1 .neg (.v x.1 x.2) τ) = .bad ∨ ∃ y, fin1 .neg (.v x.1 x.2) τ = .ok y τ
        exact fin_pure
    · cases h
  | .op2 o a b, h, τ => by
    have two : ∀ o, (a.asBrw = none ∧ pureC a = true) → (b.asBrw = none ∧ pureC b = true) → ev G C (.op2 o a b) τ = .bad ∨ ∃ x, ev G C (.op2 o a b) τ = .ok x τ := fun o ha hb => by
      rw [ev, ag_v ha.1]
      rcases pure_ev a ha.2 τ with q | ⟨x, q⟩
      · rw [q]; exact .inl rfl
      · rw [q]
        simp only [Rv.bind]
        rw [ag_v hb.1]
        rcases pure_ev b hb.2 τ with q | ⟨y, q⟩
        · rw [q]; exact .inl rfl
        · rw [q]
          simp only [Rv.bind]
          exact fin_pure
    have sp : ∀ {c : E}, (match c.asBrw with | none => pureC c | _ => false) = true → c.asBrw = none ∧ pureC c = true := fun {c} h => by
      split at h
      · rename_i e; exact ⟨e, h⟩
      · cases h
    cases o <;> (try (simp only [pureC, Bool.false_eq_true] at h; done))
    case add => rw [pureC, Bool.and_eq_true] at h; exact two _ (sp h.1) (sp h.2)
    case sub => rw [pureC, Bool.and_eq_true] at h; exact two _ (sp h.1) (sp h.2)
    case idx =>
      cases a <;> simp only [pureC, Bool.false_eq_true] at h
      rename_i i
      obtain ⟨h1, h2⟩ := sp h
      rw [ev, ag_b]
      split
      · simp only [Rv.bind]
        rw [ag_v h1]
        rcases pure_ev b h2 τ with q | ⟨y, q⟩
        · rw [q]; exact .inl rfl
        · rw [q]
          simp only [Rv.bind]
          unfold fin2 Ag.get
          split
          · exact fin_pure
          · exact .inl rfl
      · exact .inl rfl
end
section
variable {X : Cx} {ad : Nat → Addr} {xr : Nat → List T → Value → Option Addr → Hp → Prop} {W : WX} {G : Pg} {C : Nat → List T → CR} {pos p1 p2 p3 : PySem.Pos} {a b c e : Expr} {ca cb cc : E} {i : Nat} {x : Str}
/-- an int, nothing changed -/
def pR (K : PySem.W.Frag) (ad : Nat → Addr) (G : Pg) (C : Nat → List T → CR) (c : E) : TE := fun σ H Q => ∃ τ Ss, Rel K ad τ σ H Ss ∧ ∃ k o, ev G C c τ = .ok (.int k, o) τ ∧ ∀ H', Grow H H' → Q (.int k) H'
theorem pr_var (h : PE X (.Name x pos) (L2.tVar i)) : PE X (.Name x pos) (pR X.K ad G C (.var i)) := PE.imp h fun σ H Q ⟨τ, Ss, R, k, o, hv, q⟩ => by
  rw [ev] at hv
  split at hv
  · rename_i t e
    obtain ⟨v, h1, r, _⟩ := R.get e
    cases hv
    rw [Rep.int_iff] at r
    exact ⟨v, h1, by rw [r.1]; exact q H (Grow.refl H)⟩
  · cases hv
theorem pr_con {k : Int} {j p'} : PE X (.Constant (.int k) j p') (pR X.K ad G C (.con (.int k))) := PE.imp L2.pe_int fun σ H Q ⟨τ, Ss, R, k', o, hv, q⟩ => by
  rw [ev] at hv
  cases hv
  exact q H (Grow.refl H)
theorem pr_neg (hb : ca.asBrw = none) (hp : pureC ca = true) (ha : PE X a (pR X.K ad G C ca)) : PE X (.UnaryOp .USub a pos) (pR X.K ad G C (.op1 .neg ca)) := PE.imp (L2.pe_un L2.un_neg ha) fun σ H Q ⟨τ, Ss, R, k, o, hv, q⟩ => by
  rw [ev, ag_v hb] at hv
  rcases pure_ev ca hp τ with z | ⟨y, z⟩
  · rw [z] at hv; cases hv
  · rw [z] at hv
    replace hv : fin1 .neg (.v y.1 y.2) τ = .ok (.int k, o) τ := hv
    obtain ⟨t, w⟩ := y
    cases t with
    | int n =>
      have : (Rv.ok (T.int (-n), true) τ : Rv (T × Bool)) = .ok (.int k, o) τ := hv
      cases this
      exact ⟨τ, Ss, R, n, w, z, fun H1 g1 => ⟨n, rfl, q H1 g1⟩⟩
    | _ => cases hv
theorem pr_two {o2' : O2} {f : Int → Int → Int} {op : Operator} (ho : OpR X (PySem.binaryOp op) (rI0 fun i j => .int (f i j))) (hf : ∀ t u z, o2 o2' t u = some z → ∀ k, z = .int k → ∃ i j, t = .int i ∧ u = .int j ∧ k = f i j)
    (hb1 : ca.asBrw = none) (hp1 : pureC ca = true) (ha : PE X a (pR X.K ad G C ca)) (hb2 : cb.asBrw = none) (hp2 : pureC cb = true) (hb : PE X b (pR X.K ad G C cb)) : PE X (.BinOp a op b pos) (pR X.K ad G C (.op2 o2' ca cb)) := PE.imp (L2.pe_op ho ha hb) fun σ H Q ⟨τ, Ss, R, k, o, hv, q⟩ => by
  rw [ev, ag_v hb1] at hv
  rcases pure_ev (G := G) (C := C) ca hp1 τ with z | ⟨y, z⟩
  · rw [z] at hv; cases hv
  · rw [z] at hv
    simp only [Rv.bind] at hv
    rw [ag_v hb2] at hv
    rcases pure_ev (G := G) (C := C) cb hp2 τ with z2 | ⟨y2, z2⟩
    · rw [z2] at hv; cases hv
    · rw [z2] at hv
      replace hv : fin o2'.rk false (o2 o2' y.1 y2.1) τ = .ok (.int k, o) τ := hv
      cases hz : o2 o2' y.1 y2.1 with
      | none => rw [hz] at hv; cases hv
      | some t =>
        rw [hz] at hv
        have et : t = .int k := by
          simp only [fin, Bool.false_eq_true, if_false, Rv.ok.injEq, Prod.mk.injEq, and_true] at hv
          exact hv.1
        obtain ⟨i, j, h1, h2, h3⟩ := hf _ _ _ hz k et
        obtain ⟨t1, w1⟩ := y
        obtain ⟨t2, w2⟩ := y2
        simp only at h1 h2
        subst h1 h2 h3
        exact ⟨τ, Ss, R, i, w1, z, fun H1 g1 => ⟨τ, Ss, (Post.grow R g1).rel, j, w2, z2, fun H2 g2 => ⟨i, j, rfl, rfl, q H2 (g1.trans g2)⟩⟩⟩
theorem add_ints (t u z : T) (h : o2 .add t u = some z) (k : Int) (hk : z = .int k) : ∃ i j, t = .int i ∧ u = .int j ∧ k = i + j := by
  subst hk
  simp only [o2, addT] at h
  split at h
  · cases h; exact ⟨_, _, rfl, rfl, rfl⟩
  · split at h <;> cases h
  · split at h <;> cases h
  · split at h <;> cases h
  · cases h
theorem sub_ints (t u z : T) (h : o2 .sub t u = some z) (k : Int) (hk : z = .int k) : ∃ i j, t = .int i ∧ u = .int j ∧ k = i - j := by
  subst hk
  cases t <;> cases u <;> simp only [o2, reduceCtorEq, Option.some.injEq, T.int.injEq] at h
  subst h
  exact ⟨_, _, rfl, rfl, rfl⟩
theorem pr_idx (hs : isSlice b = false) (hN : PE X (.Name x p1) (L2.tVar i)) (hb2 : cb.asBrw = none) (hp2 : pureC cb = true) (hb : PE X b (pR X.K ad G C cb)) : PE X (.Subscript (.Name x p1) b pos) (pR X.K ad G C (.op2 .idx (.brw i) cb)) :=
  PE.imp (L2.pe_ix L2.ix_seq hN hb (plain_ix hs)) fun σ H Q ⟨τ, Ss, R, k, o, hv, q⟩ => by
    rw [ev, ag_b] at hv
    split at hv
    case isFalse => cases hv
    rename_i hsm
    obtain ⟨⟨u, w⟩, e0⟩ := Option.isSome_iff_exists.mp hsm
    obtain ⟨v, h1, r, _⟩ := R.get e0
    simp only [Rv.bind] at hv
    rw [ag_v hb2] at hv
    rcases pure_ev (G := G) (C := C) cb hp2 τ with z2 | ⟨y2, z2⟩
    · rw [z2] at hv; cases hv
    · rw [z2] at hv
      have hv : fin2 .idx (.b i) (.v y2.1 y2.2) τ = .ok (.int k, o) τ := hv
      simp only [fin2, Ag.get, e0, Option.map_some] at hv
      cases hz : o2 .idx u y2.1 with
      | none => rw [hz] at hv; cases hv
      | some t =>
        rw [hz] at hv
        have et : t = .int k := by
          unfold fin at hv
          simp only [Ag.isB, Bool.true_or, if_true] at hv
          split at hv
          · simp only [Rv.ok.injEq, Prod.mk.injEq, and_true] at hv; exact hv.1
          · cases hv
        obtain ⟨t2, w2⟩ := y2
        have hj : ∃ j, t2 = .int j := by
          have : idxT u t2 = some t := hz
          unfold idxT at this
          split at this <;> first | exact ⟨_, rfl⟩ | cases this
        obtain ⟨j, ej⟩ := hj
        subst ej
        refine ⟨v, h1, τ, Ss, R, j, w2, z2, fun H1 g1 => ?_⟩
        refine o2_sound (K := X.K) (ad := ad) (o := .idx) (a := u) (b := .int j) (z := t) rfl hz (r.grow g1) (by rw [Rep]; exact ⟨rfl, rfl⟩) (Q := Q) ?_
        subst et
        intro v' H' S r' g m own
        rw [Rep.int_iff] at r'
        rw [r'.1]
        exact q H' (g1.trans g)
/-- a[i][j] -/
theorem p_idx2 (h1 : isSlice b = false) (h2 : isSlice c = false) (hbc : cc.asBrw = none) (hp : pureC cc = true) (ha : PAg X ad xr W G C ca a) (hb : PAg X ad xr W G C cb b) (hc : PE X c (pR X.K ad G C cc)) : PE X (.Subscript (.Subscript a b p1) c pos) (eR X.K ad xr W (ev G C (.op3 .idx2 ca cb cc))) :=
  PE.imp (L2.pe_ix L2.ix_seq (L2.pe_ix L2.ix_seq ha hb (plain_ix h1)) hc (plain_ix h2)) fun σ H Q ⟨τ, Ss, R, q⟩ => by
    rw [ev] at q
    refine ⟨τ, Ss, R, OutA.step (Post.refl R) q fun x τ1 v H1 Ss1 S _ p1 w1 o1' q1 => ?_⟩
    refine ⟨τ1, Ss1, p1.rel, OutA.step p1 q1 fun y τ2 u H2 Ss2 S' hy p2 w2 o2' q2 => ?_⟩
    split at q2
    case isFalse => exact q2.elim
    have p12 := p1.trans p2
    rw [ag_v hbc] at q2
    rcases pure_ev (G := G) (C := C) cc hp τ2 with z2 | ⟨y3, z2⟩
    · rw [z2] at q2; exact q2.elim
    · rw [z2] at q2
      have q2 : Out X.K ad xr W τ σ H Ss Q (fin3 .idx2 x y (.v y3.1 y3.2) τ2) := q2
      cases e1 : x.get τ2 with
      | none => unfold fin3 at q2; rw [e1] at q2; exact q2.elim
      | some t1 =>
        cases e2 : y.get τ2 with
        | none => unfold fin3 at q2; rw [e1, e2] at q2; exact q2.elim
        | some t2 =>
          have q3 : Out X.K ad xr W τ σ H Ss Q (fin .given (x.isB || y.isB || false) ((idxT t1 t2).bind fun b => idxT b y3.1) τ2) := by
            have : fin3 .idx2 x y (.v y3.1 y3.2) τ2 = fin .given (x.isB || y.isB || false) ((idxT t1 t2).bind fun b => idxT b y3.1) τ2 := by
              unfold fin3; rw [e1, e2]; rfl
            rw [← this]; exact q2
          rw [Bool.or_false] at q3
          obtain ⟨S1, r1, n1⟩ := (w1.after p1.rel p2).get o1' p12 e1
          obtain ⟨S2, r2, n2⟩ := w2.get (o2'.before p1) p12 e2
          obtain ⟨z, hz, op⟩ := Out.fin (S0 := S1 ++ S2) p12 q3 (fun l c hc => by
            rw [Bool.or_eq_false_iff] at l
            exact (List.mem_append.mp hc).elim (n1 l.1 c) (n2 l.2 c))
          obtain ⟨m, hm, hz⟩ := Option.bind_eq_some_iff.mp hz
          have hj : ∃ j, y3.1 = .int j := by
            have := hz
            revert this
            cases y3.1 <;> first | exact fun _ => ⟨_, rfl⟩ | (cases m <;> (intro h; simp [idxT] at h))
          obtain ⟨j, ej⟩ := hj
          refine o2_sound (K := X.K) (ad := ad) (o := .idx) (a := t1) (b := t2) (z := m) rfl hm r1 r2 fun v' H' S3 r3 g3 m3 own3 => ?_
          have pg := p12.trans (Post.grow p12.rel g3)
          obtain ⟨t3, w3⟩ := y3
          simp only at ej
          subst ej
          refine ⟨τ2, Ss2, pg.rel, j, w3, z2, fun H4 g4 => ?_⟩
          refine o2_sound (K := X.K) (ad := ad) (o := .idx) (a := m) (b := .int j) (z := z) rfl hz (r3.grow g4) (by rw [Rep]; exact ⟨rfl, rfl⟩) fun v5 H5 S5 r5 g5 m5 own5 => ?_
          have g34 := g3.trans g4
          refine op v5 H5 S5 r5 (g34.trans g5) (fun a ha => ?_) fun ho => ?_
          · rcases m5 a ha with q | q
            · rw [List.append_nil] at q
              exact m3 a q
            · exact .inr (g34.free q)
          · obtain ⟨n5, h5⟩ := own5 ho
            exact ⟨n5, fun a ha => g34.free (h5 a ha)⟩
/-- x.pop() -/
theorem p_pop0 (hN : PE X (.Name x p1) (L2.tVar i)) (hl : (p2.endLine == p3.line) = true) : PE X (.Call (.Attribute (.Name x p1) "pop" p2) [] [] p3) (eR X.K ad xr W (ev G C (.pop i []))) :=
  PE.imp (L2.pe_bm0 PySem.F.plainAttrs_list PySem.F.slot_list_pop PySem.F.type_list_pop L2.mt_pop hN rfl hl) fun σ H Q ⟨τ, Ss, R, q⟩ => by
    rw [ev] at q
    split at q
    case isFalse => exact q.elim
    rename_i hls
    obtain ⟨xs0, w0, e0⟩ := isLs_iff hls
    obtain ⟨a, vs, S', hv, ha, es, l, _⟩ := R.lst e0
    refine ⟨.ref a, hv, .inl ⟨rfl, vs, SqL.of ha⟩, ?_⟩
    rw [evs] at q
    have q : Out X.K ad xr W τ σ H Ss Q (popR i [] τ) := q
    unfold popR at q
    split at q
    · rename_i xs hr _
      split at q
      · rename_i y hy
        split at q
        · rename_i hlf
          have hy' : xs[xs.length - 1]? = some y := by rw [← hy, List.getLast?_eq_getElem?]
          obtain ⟨a', vs', v', h1, h2, h3, h4, Ss', p', r'⟩ := pop_ok (Post.refl R) hr hy' hlf
          rw [hv] at h1; cases h1
          refine ⟨a, vs', v', rfl, rfl, h2, by rw [h3]; exact h4, ?_⟩
          have e6 : xs.eraseIdx (xs.length - 1) = xs.dropLast := List.eraseIdx_length_sub_one ..
          have e7 : vs'.eraseIdx (xs.length - 1) = vs'.dropLast := by rw [← h3]; exact List.eraseIdx_length_sub_one ..
          rw [e6, e7] at p'
          rw [e7] at r'
          exact q.ok p' (Val.plain r') Org.nil
        · exact q.elim
      · exact q.elim
    · rename_i h; cases h
    · exact q.elim
end
end M
end

section
set_option Elab.async false
set_option autoImplicit false
set_option linter.all false
set_option maxRecDepth 100000
set_option maxHeartbeats 4000000
/-! SoundY: x.pop(k); list(range(n)); len(set(xs)); a table of the top; zip. -/
namespace MZ
open PySem PySem.Spec PyProof.Rows L2
theorem once_mem : ∀ {ns : List Int} {k : Int}, k ∈ M.onceI ns ↔ k ∈ ns
  | [], k => by simp [M.onceI]
  | n :: ns, k => by
    rw [M.onceI]
    split
    · rename_i h
      rw [once_mem (ns := ns), List.mem_cons]
      refine ⟨.inr, fun q => q.elim (fun e => e ▸ h) id⟩
    · rw [List.mem_cons, List.mem_cons, once_mem (ns := ns)]
theorem once_nodup : ∀ {ns : List Int}, (M.onceI ns).Nodup
  | [] => by simp [M.onceI]
  | n :: ns => by
    rw [M.onceI]
    split
    · exact once_nodup
    · rename_i h
      exact List.nodup_cons.mpr ⟨fun q => h (once_mem.mp q), once_nodup⟩
theorem len_le : ∀ {xs ys : List Int}, xs.Nodup → (∀ k ∈ xs, k ∈ ys) → xs.length ≤ ys.length
  | [], ys, _, _ => Nat.zero_le _
  | x :: xs, ys, h, hs => by
    obtain ⟨h1, h2⟩ := List.nodup_cons.mp h
    have hx : x ∈ ys := hs x (by simp)
    have q := len_le (xs := xs) (ys := ys.erase x) h2 fun k hk => by
      have e : k ≠ x := fun e => by subst e; exact h1 hk
      exact (List.mem_erase_of_ne e).mpr (hs k (by simp [hk]))
    rw [List.length_erase_of_mem hx] at q
    have : 0 < ys.length := List.length_pos_of_mem hx
    rw [List.length_cons]
    omega
def tLenSetT (K : PySem.W.Frag) (ta : TE) : TE := fun σ H Q => ta σ H fun x H1 => ∃ (l : Addr) (ns : List Int), x = .ref l ∧ SqT K H1 l (ns.map V.int) ∧ ns.length ≤ 4000 ∧ Q (.int ((M.onceI ns).length : Nat)) H1
theorem ints_vals : ∀ {ns : List Int} {us : List Value}, Vals (ns.map V.int) us → PyProof.Rows.IntsAre us ns
  | [], _, .nil => .nil
  | n :: ns, _, .cons r t => by
    obtain ⟨k, rfl⟩ := r
    exact .cons n k (ints_vals t)
theorem pe_lenSetT {X : Cx} {a : Expr} {ta : TE} {p p2 q pos : Pos} (hg : Gl X "len") (hm : X.mg "len" = none) (hg2 : Gl X "set") (hm2 : X.mg "set" = none) (ha : PE X a ta) (hc : X.calm = true)
    (na : starEach [a] X.env = (false, eval a X.env) :: starEach [] X.env) : PE X (.Call (.Name "len" p) [.Call (.Name "set" p2) [a] [] q] [] pos) (tLenSetT X.K ta) := by
  refine ⟨fun pins s σ H Q I h => ?_⟩
  refine Call_ (ld_blt I hg hm boot_len ?_)
  refine PyProof.Rows.callWith_builtin1 (PyProof.Rows.args_cons ?_ rfl) rfl rfl
  refine Call_ (ld_blt I hg2 hm2 boot_set ?_)
  refine PyProof.Rows.callWith_type1 (PyProof.Rows.args_cons (thn (ha.run pins s σ H _ I h) fun v s1 ⟨x, H1, I1, r1, q1⟩ => PyProof.Rows.args_nil ?_) na) na rfl
  obtain ⟨l, ns, rfl, hq, hl, q1⟩ := q1
  cases r1
  obtain ⟨its, r, pl, hz⟩ := I1.tuple hq
  refine call_set_tupI ns (I1.ok.hd hc) pl (by simpa using ints_vals r) (by unfold scanBound; omega) fun h' tk c hS hcl hk => ?_
  refine PyProof.Rows.args_nil ?_
  obtain ⟨o, es, ep, t, ho, hex, hd, _, hnd, hmem, _, hf, hn, _⟩ := hS
  have e1 : es.size = (M.onceI ns).length := by
    have l1 := len_le hnd (ys := M.onceI ns) fun k hk => once_mem.mpr (of_decide_eq_true ((hmem k).mpr hk))
    have l2 := len_le once_nodup (ys := es.toList.map keyOf) fun k hk => (hmem k).mp (decide_eq_true (once_mem.mp hk))
    have l3 : (es.toList.map keyOf).length = es.size := by rw [List.length_map, Array.length_toList]
    omega
  have I2 : Inv X pins σ H1 { s1 with heap := h', toks := tk } := I1.kept fun b o e => hk b o e
  exact call_len_set ho hex hd hf (by rw [hn] <;> omega) ⟨.int ((M.onceI ns).length : Nat), H1, I2.tok _, ⟨_, by rw [e1]⟩, q1⟩
/-! ### xs[::-1] -/
theorem places_rev (n : Nat) : Builtin.Slice.slicePlaces ((n : Int) - 1) (-1) (-1) = n := by
  unfold Builtin.Slice.slicePlaces
  have h1 : ¬ ((-1 : Int) > 0) := by omega
  simp only [h1, if_false]
  split
  · rw [show (- -1 : Int) = 1 by decide, Int.ediv_one]; omega
  · omega
theorem pick_rev (xs : Array Value) : ((List.range xs.size).filterMap fun (k : Nat) => xs[((xs.size : Int) - 1 + (k : Int) * (-1)).toNat]?).toArray = xs.toList.reverse.toArray := by
  have e : (fun (k : Nat) => xs[((xs.size : Int) - 1 + (k : Int) * (-1)).toNat]?) = (fun j => xs[j]?) ∘ fun k => xs.size - 1 - k := by
    funext k
    have : ((xs.size : Int) - 1 + (k : Int) * (-1)).toNat = xs.size - 1 - k := by omega
    rw [this]; rfl
  rw [e, ← List.filterMap_map, PySem.W.krv_range, List.filterMap_reverse, PySem.W.krv_all]
section
variable {prog : Program} {w : World} {A : Around} {E : Value → Shared → Prop} {s : Shared}
theorem sliceApplied_rev {sl : Addr} {vl vu vs : Value} {n : Nat} {Q : Int × Int × Nat → Shared → Prop} (hs : s.heap.IsSliceOf sl vl vu vs) (pl : IsPart vl none) (pu : IsPart vu none) (ps : IsPart vs (some (-1)))
    (h : Q ((n : Int) - 1, -1, n) s) : wpAny (model prog w) A (Builtin.Slice.sliceApplied (.ref sl) (pure (n : Int))) Q E s := by
  obtain ⟨os, hos, hcs, hds⟩ := id hs
  unfold Builtin.Slice.sliceApplied Builtin.Slice.sliceFields
  refine wpAny_bind (wpAny_bind (wpAny_field hos hds (x := vl) rfl (wpAny_bind (wpAny_field hos hds (x := vu) rfl (wpAny_bind (wpAny_field hos hds (x := vs) rfl (wpAny_pure ?_)))))))
  refine wpAny_bind (HT.slicePart_ ps ?_)
  show wpAny _ _ (if ((-1 : Int) == 0) = true then _ else _) _ _ s
  rw [if_neg (by decide)]
  refine wpAny_bind (HT.slicePart_ pl (wpAny_bind (HT.slicePart_ pu (wpAny_bind (wpAny_pure ?_)))))
  show wpAny _ _ (pure ((n : Int) - 1, (-1 : Int), Builtin.Slice.slicePlaces ((n : Int) - 1) (-1) (-1))) _ _ s
  rw [places_rev]
  exact wpAny_pure h
theorem getItem_tuple_rev {t sl : Addr} {items : Array Value} {vl vu vs : Value} {Q : Value → Shared → Prop} (ht : IsTup s.heap t items) (hs : s.heap.IsSliceOf sl vl vu vs) (pl : IsPart vl none) (pu : IsPart vu none) (ps : IsPart vs (some (-1)))
    (h : Q (.ref s.heap.objs.size) { s with heap := s.heap.push { cls := .type "tuple", data := .seq items.toList.reverse.toArray } })
    (hsz : items.size ≤ sizeLine) : wpAny (model prog w) A (getItem (.ref t) (.ref sl)) Q E s := by
  have htake : sizeOk (.seq items.toList.reverse.toArray) := by
    show items.toList.reverse.toArray.size ≤ sizeLine
    rw [List.size_toArray, List.length_reverse, Array.length_toList]
    omega
  obtain ⟨os, hos, hcs, hds⟩ := id hs
  have hTs : s.TypeIs (.ref sl) "slice" := ⟨os, hos, hcs⟩
  unfold getItem
  try with_reducible refine wpAny_holding ?_
  first | refine wpAny_bind (wpAny_pure ?_) | skip
  refine wpAny_bind (wpAny_sequenceKey ht.typeIs (by decide) ?_)
  refine wpAny_bind (wpAny_callSpecial?_slot (name := Str.ofString "__getitem__") ht.typeIs PyProof.Rows.slot_tuple_getitem
    (wpAny_call_entry PyProof.Rows.slot_tuple_getitem ht.typeIs entry_tuple_getitem ?_ (args_tuple_getitem _ _)))
  show wpAny _ _ (Builtin.Tuple.tupleItemsOf (.ref t) >>= _) _ _ s
  refine wpAny_bind (tupleItemsOf_ ht ?_)
  refine wpAny_bind (wpAny_typeOf hTs ?_)
  rw [if_pos (by decide)]
  refine wpAny_bind (sliceApplied_rev hs pl pu ps ?_)
  have hno : ¬ ((((items.size : Int) - 1 == 0) && (-1 : Int) == 1 && items.size == items.size) = true) := by
    intro q
    rw [Bool.and_eq_true, Bool.and_eq_true] at q
    exact absurd q.1.2 (by decide)
  show wpAny _ _ (if (((items.size : Int) - 1 == 0) && (-1 : Int) == 1 && items.size == items.size) = true then _ else _) _ _ s
  rw [if_neg hno, pick_rev]
  first
    | exact wpAny_bind (m := Builtin.Tuple.tupleExact _) (wpAny_newObj_type (wpAny_pure ⟨_, rfl, wpAny_pure h⟩) htake)
    | exact wpAny_bind (m := Builtin.Tuple.tupleExact _) (wpAny_newObj_type (wpAny_bind (wpAny_pure (wpAny_pure ⟨_, rfl, wpAny_pure h⟩))) htake)
    | exact wpAny_bind (wpAny_bind (m := Builtin.Tuple.tupleExact _) (wpAny_newObj_type (wpAny_pure (wpAny_pure ⟨_, rfl, wpAny_pure h⟩)) htake))
    | exact wpAny_bind (wpAny_bind (m := Builtin.Tuple.tupleExact _) (wpAny_newObj_type (wpAny_pure ⟨_, rfl, wpAny_pure h⟩) htake))
end
def tRevA (K : PySem.W.Frag) (te : TE) : TE := fun σ H Q => te σ H fun x H1 => ∃ a xs, x = .ref a ∧ ((SqL K H1 a xs ∧ ∀ p, H1 p = none → Q (.ref p) (upd H1 p (.lst xs.reverse))) ∨ (SqT K H1 a xs ∧ ∀ p, H1 p = none → Q (.ref p) (upd H1 p (.tup xs.reverse))))
theorem pe_revA {X : Cx} {e : PySem.Expr} {te : TE} {k : Nat} {p1 p2 p3 pos : Pos} (he : PE X e te) : PE X (.Subscript e (.Slice none none (some (.UnaryOp .USub (.Constant (.int 1) k p1) p2)) p3) pos) (tRevA X.K te) := by
  refine ⟨fun pins s σ H Q I h => ?_⟩
  refine Subscript_ (thn (he.run pins s σ H _ I h) fun v s1 ⟨x, H1, I1, r1, q1⟩ => ?_)
  obtain ⟨a, xs, ex, q⟩ := q1
  subst ex
  cases r1
  have hst : PO X (some (.UnaryOp .USub (.Constant (.int 1) k p1) p2)) (tPart (tUn (rU fun i => .int (-i)) (tC (.int 1)))) := po_some (pe_un un_neg pe_int)
  refine wpAny_Slice (thn (po_none.run pins s1 σ H1 (fun o H2 => o = none ∧ H2 = H1) I1 ⟨rfl, rfl⟩) fun vl s2 ⟨l, H2, I2, pl, el, e2⟩ => ?_)
  subst el e2
  refine thn (po_none.run pins s2 σ H2 (fun o H3 => o = none ∧ H3 = H2) I2 ⟨rfl, rfl⟩) fun vu s3 ⟨u, H3, I3, pu, eu, e3⟩ => ?_
  subst eu e3
  refine thn (hst.run pins s3 σ H3 (fun o H4 => o = some (-1) ∧ H4 = H3) I3 ⟨1, rfl, -1, rfl, rfl, rfl⟩) fun vs s4 ⟨o, H4, I4, ps, eo, e4⟩ => ?_
  subst eo e4
  have I5 : Inv X pins σ H4 { s4 with heap := s4.heap.push { cls := .type "slice", data := .fields #[vl, vu, vs] } } := I4.kept (t' := s4.toks) fun b ob q => Heap.get?_push_of_some _ q
  rcases q with ⟨hx, q⟩ | ⟨hx, q⟩
  · obtain ⟨its, r, ht, hz⟩ := I5.list hx
    have hlen := r.length
    show wpAny (model X.prog X.w) X.A (subscriptTail e (.Slice none none (some (.UnaryOp .USub (.Constant (.int 1) k p1) p2)) p3) (.ref a) (.ref s4.heap.objs.size)) (EP X pins σ Q) X.xe { s4 with heap := s4.heap.push { cls := .type "slice", data := .fields #[vl, vu, vs] } }
    refine tail_any (ops := [.ref a, .ref s4.heap.objs.size]) ht.isList.typeIs (PySem.slot_list_getitem.lookup) ?_ (by with_unfolding_all rfl)
    refine wpAny_getItem_list_slice ht.isList (Heap.IsSliceOf.new _ vl vu vs) pl pu ps (by decide) ?_ (by rw [List.size_toArray]; omega)
    rw [PySem.W.krv_pick]
    refine ⟨.ref _, _, I5.laid (t' := s4.toks) (o := .lst xs.reverse) (fun b ob q => Heap.get?_push_of_some _ q) (Nat.le_refl _) ?_, rfl, q _ (I5.hok.fresh (Nat.le_refl _))⟩
    exact ⟨by rw [List.length_reverse]; exact hz, _, 0, r.reverse, Heap.get?_push_size _ rfl⟩
  · obtain ⟨its, r, ht, hz⟩ := I5.tuple hx
    have hlen : its.toArray.size = xs.length := by rw [List.size_toArray]; exact r.length.symm
    show wpAny (model X.prog X.w) X.A (subscriptTail e (.Slice none none (some (.UnaryOp .USub (.Constant (.int 1) k p1) p2)) p3) (.ref a) (.ref s4.heap.objs.size)) (EP X pins σ Q) X.xe { s4 with heap := s4.heap.push { cls := .type "slice", data := .fields #[vl, vu, vs] } }
    refine tail_any (ops := [.ref a, .ref s4.heap.objs.size]) ht.typeIs (PyProof.Rows.slot_tuple_getitem.lookup) ?_ (by with_unfolding_all rfl)
    refine getItem_tuple_rev ht (Heap.IsSliceOf.new _ vl vu vs) pl pu ps ?_ (by rw [hlen]; exact hz)
    refine ⟨.ref _, _, I5.laid (t' := s4.toks) (o := .tup xs.reverse) (fun b ob q => Heap.get?_push_of_some _ q) (Nat.le_refl _) ?_, rfl, q _ (I5.hok.fresh (Nat.le_refl _))⟩
    exact ⟨by rw [List.length_reverse]; exact hz, _, r.reverse, IsTup.new _ _⟩
end MZ
namespace M
open PySem (Addr Str PyData Operator CmpOp UnaryOp Value Expr Stmt Scope NameKind)
open L2 (V Hp HO SqT SqL Rd upd upd_same upd_ne St VK XK WX TE TT TA TG TGs TI TS It R2 OpR UnR CallR Dp DpAll rI0 rI Cx Room TruV PE PT PW PA PG PGs PI PTs PS PSs PMk Ends Inv Vis Loc Gl Takes Sp FnOk Binds)
theorem ixN_seq {n j : Nat} {k : Int} (h : ixN n k = some j) : PySem.seqIndex? k n = some j := by
  unfold ixN at h
  unfold PySem.seqIndex?
  split at h
  · rename_i h0
    split at h
    · rename_i h1
      cases h
      have e : ¬ k < 0 := by omega
      simp only [e, if_false]
      have e2 : (decide (0 ≤ k) && decide (k < (n : Int))) = true := by simp; omega
      rw [if_pos e2]
    · cases h
  · rename_i h0
    split at h
    · rename_i h1
      cases h
      have e : k < 0 := by omega
      simp only [e, if_true]
      have e2 : (decide (0 ≤ k + (n : Int)) && decide (k + (n : Int) < (n : Int))) = true := by simp; omega
      rw [if_pos e2]
    · cases h
section
variable {X : Cx} {ad : Nat → Addr} {xr : Nat → List T → Value → Option Addr → Hp → Prop} {W : WX} {G : Pg} {C : Nat → List T → CR} {pos p1 p2 p3 p4 : PySem.Pos} {a b c e y : Expr} {ca cb cc cy : E} {i : Nat} {x : Str}
/-- x.pop(k) -/
theorem p_popAt (hN : PE X (.Name x p1) (L2.tVar i)) (hs : isStar y = false) (hl : (p2.endLine == p3.line) = true) (he : PE X y (eR X.K ad xr W (ev G C cy))) : PE X (.Call (.Attribute (.Name x p1) "pop" p2) [y] [] p3) (eR X.K ad xr W (ev G C (.pop i [cy]))) :=
  PE.imp (L2.pe_bm PySem.F.plainAttrs_list PySem.F.slot_list_pop PySem.F.type_list_pop L2.mt_popAt hN (a_one hs he) rfl (few_one hs) hl (star_cons hs) rfl) fun σ H Q ⟨τ, Ss, R, q⟩ => by
    rw [ev] at q
    split at q
    case isFalse => exact q.elim
    rename_i hls
    obtain ⟨xs0, w0, e0⟩ := isLs_iff hls
    obtain ⟨a, vs, S', hv, ha, es, l, _⟩ := R.lst e0
    have q : Out X.K ad xr W τ σ H Ss Q ((ev G C cy τ).bind fun k s1 => popR i [k] s1) := by
      have e1 : ((evs G C [cy] τ).bind fun ks s1 => popR i ks s1) = (ev G C cy τ).bind fun k s1 => popR i [k] s1 := by
        rw [evs]
        cases ev G C cy τ with
        | ok k s1 =>
          show (((evs G C [] s1).bind fun xs s2 => Rv.ok (k :: xs) s2).bind fun ks s1 => popR i ks s1) = popR i [k] s1
          rw [evs]; rfl
        | ex _ _ _ => rfl
        | bad => rfl
      rw [← e1]; exact q
    refine ⟨.ref a, hv, .inl ⟨rfl, vs, SqL.of ha⟩, τ, Ss, R, Out.step (Post.refl R) q fun k τ2 v H2 Ss2 S _ p w o q2 => ?_⟩
    unfold popR at q2
    split at q2
    · rename_i h; cases h
    · rename_i xs n o' hr hk
      injection hk with hk _
      subst hk
      split at q2
      case isFalse => exact q2.elim
      rename_i hb
      unfold RMAX at hb
      split at q2
      · rename_i j hj
        split at q2
        · rename_i u hu
          split at q2
          · rename_i hlf
            obtain ⟨a', vs', v', h1, h2, h3, h4, Ss', p', r'⟩ := pop_ok p hr hu hlf
            rw [hv] at h1; cases h1
            have rk := w.rep
            rw [Rep.int_iff] at rk
            refine ⟨a, vs', n, j, v', rfl, by rw [rk.1], h2, by omega, by omega, by rw [h3]; exact ixN_seq hj, h4, ?_⟩
            exact q2.ok p' (Val.plain r') Org.nil
          · exact q2.elim
        · exact q2.elim
      · exact q2.elim
    · exact q2.elim
theorem rgOk {n : Int} (h : -RMAX ≤ n ∧ n ≤ LIM) : L2.RgOk 0 n := by
  unfold RMAX LIM at h
  exact ⟨by omega, by omega, by omega, by omega, by omega⟩
/-- list(range(n)) -/
theorem p_lrg {p4 : PySem.Pos} (hc : X.calm = true) (hs : isStar a = false) (g : Gl X "list") (m : X.mg "list" = none) (g2 : Gl X "range") (m2 : X.mg "range" = none) (ha : PE X a (agR X.K ad xr W fun s => ag ca (ev G C ca s) s)) :
    PE X (.Call (.Name "list" p1) [.Call (.Name "range" p2) [a] [] p3] [] p4) (eR X.K ad xr W (ev G C (.op1 .lrg ca))) :=
  s_op1 (ta := fun _ _ _ => True) (r := fun x H Q => ∃ n, x = .int n ∧ (L2.RgOk 0 n ∧ ∀ q, H q = none → Q (.ref q) (upd H q (.lst (L2.rgV 0 n)))))
    (fun ta h => L2.pe_listRg hc g m (L2.prg_1 g2 m2 h (star_cons hs)) rfl) ha fun {H t z v S Q} hz r q => by
    cases t <;> simp only [o1, reduceCtorEq] at hz
    rename_i n
    split at hz
    · rename_i hn
      cases hz
      rw [Rep.int_iff] at r
      exact ⟨n, r.1, rgOk hn, fun p hp => OpP.lstP (S := []) q (rangeL_rep 0 n) hp⟩
    · cases hz
theorem p_trg {p4 : PySem.Pos} (hc : X.calm = true) (hs : isStar a = false) (g : Gl X "tuple") (m : X.mg "tuple" = none) (g2 : Gl X "range") (m2 : X.mg "range" = none) (ha : PE X a (agR X.K ad xr W fun s => ag ca (ev G C ca s) s)) :
    PE X (.Call (.Name "tuple" p1) [.Call (.Name "range" p2) [a] [] p3] [] p4) (eR X.K ad xr W (ev G C (.op1 .trg ca))) :=
  s_op1 (ta := fun _ _ _ => True) (r := fun x H Q => ∃ n, x = .int n ∧ (L2.RgOk 0 n ∧ ∀ q, H q = none → Q (.ref q) (upd H q (.tup (L2.rgV 0 n)))))
    (fun ta h => L2.pe_tupRg hc g m (L2.prg_1 g2 m2 h (star_cons hs)) rfl) ha fun {H t z v S Q} hz r q => by
    cases t <;> simp only [o1, reduceCtorEq] at hz
    rename_i n
    split at hz
    · rename_i hn
      cases hz
      rw [Rep.int_iff] at r
      refine ⟨n, r.1, rgOk hn, fun p hp => ?_⟩
      have g := Grow.new (o := .tup (L2.rgV 0 n)) hp
      exact q _ _ [] (by rw [Rep.tup_iff]; exact ⟨p, _, rfl, .inl (.inl upd_same), rangeL_rep 0 n⟩) g (by simp) fun _ => ⟨by simp, by simp⟩
    · cases hz
/-- a table of the top -/
structure DicAt (X : Cx) (ad : Nat → Addr) (d : List (Str × T)) (u : Addr) : Prop where
  at_ : ∀ z t, d.lookup z = some t → ∃ v, L2.KDct X.K X.w u z v ∧ ∀ H, Rep X.K ad H t v []
theorem p_dget {j : Nat} {d : List (Str × T)} {u : Addr} (hd : G.dics[j]? = some d) (D : DicAt X ad d u) (g : Gl X x) (g2 : (x == ("__debug__" : Str)) = false) (m : X.mg x = some (.ref u)) (hs : isSlice y = false) (hb : PE X y (agR X.K ad xr W fun s => ag cy (ev G C cy s) s)) :
    PE X (.Subscript (.Name x p1) y pos) (eR X.K ad xr W (ev G C (.dget j cy))) :=
  PE.imp (L2.pe_ix L2.ix_kdict (L2.pe_glob (v := .ref u) g m rfl g2) hb (plain_ix hs)) fun σ H Q ⟨τ, Ss, R, q⟩ => by
    rw [ev] at q
    refine ⟨τ, Ss, R, OutA.step (Post.refl R) q fun z τ2 v H2 Ss2 S _ p w o q2 => ?_⟩
    split at q2
    · rename_i s hz
      rw [hd] at q2
      simp only [Option.bind_some] at q2
      cases hl : d.lookup s with
      | none => rw [hl] at q2; exact q2.elim
      | some t =>
        rw [hl] at q2
        obtain ⟨S1, r, _⟩ := w.get o p hz
        rw [Rep.str_iff] at r
        obtain ⟨v', k, rp⟩ := D.at_ s t hl
        obtain ⟨t', e, op⟩ := Out.fin (S0 := []) p q2 (fun _ a ha => by cases ha)
        cases e
        exact ⟨u, s, v', rfl, r.1, k, OpP.given op (rp H2) (by simp)⟩
    · exact q2.elim
theorem ints_of {K : PySem.W.Frag} {H : Hp} : ∀ {xs : List T} {vs : List V} {S : List Addr} {ns : List Int}, RepL K ad H xs vs S → intsOf xs = some ns → vs = ns.map V.int
  | [], vs, S, ns, r, h => by
    rw [RepL] at r
    simp only [intsOf, Option.some.injEq] at h
    rw [r.1, ← h]; rfl
  | t :: ts, vs, S, ns, r, h => by
    cases t <;> simp only [intsOf, reduceCtorEq] at h
    rw [RepL] at r
    obtain ⟨v, vs', S1, S2, e, _, q, rr⟩ := r
    rw [Rep.int_iff] at q
    obtain ⟨ms, h1, h2⟩ := Option.map_eq_some_iff.mp h
    rw [e, q.1, ints_of rr h1, ← h2]; rfl
/-- len(set(xs)), xs a tuple of ints -/
theorem p_lenSet {p4 : PySem.Pos} (hc : X.calm = true) (hs : isStar a = false) (g : Gl X "len") (m : X.mg "len" = none) (g2 : Gl X "set") (m2 : X.mg "set" = none) (ha : PE X a (agR X.K ad xr W fun s => ag ca (ev G C ca s) s)) :
    PE X (.Call (.Name "len" p1) [.Call (.Name "set" p2) [a] [] p3] [] p4) (eR X.K ad xr W (ev G C (.op1 .lenSet ca))) :=
  s_op1 (ta := fun _ _ _ => True) (r := fun x H Q => ∃ (l : Addr) (ns : List Int), x = .ref l ∧ SqT X.K H l (ns.map V.int) ∧ ns.length ≤ 4000 ∧ Q (.int ((M.onceI ns).length : Nat)) H)
    (fun ta h => MZ.pe_lenSetT g m g2 m2 h hc (star_cons hs)) ha fun {H t z v S Q} hz r q => by
    cases t <;> simp only [o1, reduceCtorEq] at hz
    rename_i xs
    unfold lenSetT at hz
    split at hz
    · rename_i hn
      obtain ⟨ns, h1, h2⟩ := Option.map_eq_some_iff.mp hz
      subst h2
      rw [Rep.tup_iff] at r
      obtain ⟨l, vs, e, sq, rl⟩ := r
      have ev := ints_of rl h1
      subst ev
      have hl := rl.length
      rw [List.length_map] at hl
      exact ⟨l, ns, e, sq, by omega, q.int⟩
    · cases hz
theorem RepL.rev {K : PySem.W.Frag} {H : Hp} : ∀ {xs : List T} {vs : List V} {S : List Addr}, RepL K ad H xs vs S → ∃ S', RepL K ad H xs.reverse vs.reverse S' ∧ ∀ a ∈ S', a ∈ S
  | [], vs, S, r => by
    rw [RepL] at r
    rw [r.1]
    exact ⟨[], RepL.nil, by simp⟩
  | t :: ts, vs, S, r => by
    rw [RepL] at r
    obtain ⟨v, vs', S1, S2, e, e2, q, rr⟩ := r
    subst e e2
    obtain ⟨S', h, l⟩ := rr.rev
    rw [List.reverse_cons, List.reverse_cons]
    refine ⟨S' ++ (S1 ++ []), h.append (RepL.cons q RepL.nil), fun x hx => ?_⟩
    simp only [List.append_nil, List.mem_append] at hx ⊢
    exact hx.elim (fun k => .inr (l x k)) .inl
theorem p_rev {jj : Nat} (ha : PE X a (agR X.K ad xr W fun s => ag ca (ev G C ca s) s)) :
    PE X (.Subscript a (.Slice none none (some (.UnaryOp .USub (.Constant (.int 1) jj p1) p2)) p3) pos) (eR X.K ad xr W (ev G C (.op1 .rev ca))) :=
  s_op1 (ta := fun _ _ _ => True) (r := fun x H Q => ∃ a xs, x = .ref a ∧ ((SqL X.K H a xs ∧ ∀ p, H p = none → Q (.ref p) (upd H p (.lst xs.reverse))) ∨ (SqT X.K H a xs ∧ ∀ p, H p = none → Q (.ref p) (upd H p (.tup xs.reverse)))))
    (fun ta h => MZ.pe_revA h) ha fun {H t z v S Q} hz r q => by
    cases t <;> simp only [o1, reduceCtorEq, Option.some.injEq] at hz
    · subst hz
      rw [Rep.tup_iff] at r
      obtain ⟨p, vs, ev, t, l⟩ := r
      subst ev
      obtain ⟨S', f, fl⟩ := l.rev
      exact ⟨p, vs, rfl, .inr ⟨t, fun p hp => OpP.tup q f fl hp⟩⟩
    · subst hz
      rw [Rep.lst_iff] at r
      obtain ⟨p, vs, S', ev, t, es, l⟩ := r
      subst ev es
      obtain ⟨S', f, fl⟩ := l.rev
      exact ⟨p, vs, rfl, .inl ⟨SqL.of t, fun p hp => OpP.lst q f (fun x hx => by simp [fl x hx]) hp⟩⟩
/-! ### zip -/
theorem zip_get {xs ys : List T} {i : Nat} {t : T} (h : (zipT xs ys)[i]? = some t) : ∃ x y, xs[i]? = some x ∧ ys[i]? = some y ∧ t = .tup [x, y] := by
  unfold zipT at h
  rw [List.getElem?_map] at h
  obtain ⟨p, h1, h2⟩ := Option.map_eq_some_iff.mp h
  rw [List.getElem?_zip_eq_some] at h1
  exact ⟨p.1, p.2, h1.1, h1.2, h2.symm⟩
theorem walks_zip {K : PySem.W.Frag} {H0 : Hp} {xs ys : List T} {v w : V} {S1 S2 : List Addr} (r1 : Rep K ad H0 (.tup xs) v S1) (r2 : Rep K ad H0 (.tup ys) w S2) :
    ∃ a b vs ws, v = .ref a ∧ w = .ref b ∧ SqT K H0 a vs ∧ SqT K H0 b ws ∧ Walks K ad (RZ.ItzT K a b) (zipT xs ys) (S1 ++ S2) fun H' => Rep K ad H' (.tup xs) v S1 ∧ Rep K ad H' (.tup ys) w S2 := by
  have inj : ∀ {a b : Addr}, V.ref a = V.ref b → a = b := fun h => by cases h; rfl
  rw [Rep.tup_iff] at r1 r2
  obtain ⟨a, vs, e1, q1, l1⟩ := r1
  obtain ⟨b, ws, e2, q2, l2⟩ := r2
  have dec : ∀ H', (Rep K ad H' (.tup xs) v S1 ∧ Rep K ad H' (.tup ys) w S2) → ∃ vs' ws', SqT K H' a vs' ∧ SqT K H' b ws' ∧ RepL K ad H' xs vs' S1 ∧ RepL K ad H' ys ws' S2 := fun H' ⟨h1, h2⟩ => by
    rw [Rep.tup_iff] at h1 h2
    obtain ⟨a', vs', e1', q1', l1'⟩ := h1
    obtain ⟨b', ws', e2', q2', l2'⟩ := h2
    have ea := inj (e1.symm.trans e1'); subst ea
    have eb := inj (e2.symm.trans e2'); subst eb
    exact ⟨vs', ws', q1', q2', l1', l2'⟩
  have zl : (zipT xs ys).length = min xs.length ys.length := by simp [zipT]
  refine ⟨a, b, vs, ws, e1, e2, q1, q2, fun i H h hi => ?_, fun H h => ?_, fun i H x H' h hy t ht => ?_⟩
  · obtain ⟨vs', ws', q1', q2', l1', l2'⟩ := dec H h
    have := l1'.length
    have := l2'.length
    have h1 : i < vs'.length := by omega
    have h2 : i < ws'.length := by omega
    exact ⟨vs', ws', vs'[i], ws'[i], q1', q2', List.getElem?_eq_getElem h1, List.getElem?_eq_getElem h2⟩
  · obtain ⟨vs', ws', q1', q2', l1', l2'⟩ := dec H h
    have := l1'.length
    have := l2'.length
    exact ⟨vs', ws', q1', q2', by omega⟩
  · obtain ⟨vs', ws', q1', q2', l1', l2'⟩ := dec H h
    obtain ⟨x1, y1, h1, h2, rfl⟩ := zip_get ht
    obtain ⟨Tt, x2, y2, hv, hn, hH, g1, g2⟩ := hy
    obtain ⟨u1, A1, m1, m2, m3⟩ := l1'.get h1
    obtain ⟨u2, A2, k1, k2, k3⟩ := l2'.get h2
    have z1 := g1 vs' q1'
    have z2 := g2 ws' q2'
    rw [m1] at z1; cases z1
    rw [k1] at z2; cases z2
    have g : Grow H H' := by rw [hH]; exact Grow.new hn
    refine ⟨g, A1 ++ A2, ?_, fun c hc => ?_⟩
    · rw [Rep.tup_iff]
      refine ⟨Tt, _, hv, .inl (.inl (by rw [hH]; exact upd_same)), ?_⟩
      have := RepL.cons (m2.grow g) (RepL.cons (k2.grow g) (RepL.nil (K := K) (ad := ad) (H := H')))
      rw [List.append_nil] at this
      exact this
    · rcases List.mem_append.mp hc with q | q
      · exact List.mem_append_left _ (m3 c q)
      · exact List.mem_append_right _ (k3 c q)
theorem ag_none {c : E} {r : Rv (T × Bool)} {s : Sl} (h : c.asBrw = none) : ag c r s = r.bind fun x s1 => .ok (.v x.1 x.2) s1 := by unfold ag; rw [h]
theorem i_zip {elts : List Expr} {kk : Nat} {tpos : PySem.Pos} (hs : isStar a = false) (hs2 : isStar b = false) (g : Gl X "zip") (m : X.mg "zip" = none) (ha : PE X a (eR X.K ad xr W (ev G C ca))) (hb : PE X b (eR X.K ad xr W (ev G C cb))) (na : ca.asBrw = none) (nb : cb.asBrw = none) :
    PI X (.Tuple elts kk tpos) (.Call (.Name "zip" p1) [a, b] [] pos) (iR X.K ad xr W fun s => srcE (ag (.op2 .zip ca cb) (ev G C (.op2 .zip ca cb) s) s)) :=
  ⟨fun pins s σ H R I q => (RZ.pi_zipA g m (L2.pa_cons ha (L2.pa_cons hb L2.pa_nil (star_cons hs2)) (star_cons hs)) (star_cons hs) (by rw [star_cons hs2]; rfl)).run pins s σ H R I (by
    obtain ⟨τ, Ss, Rl, q⟩ := q
    refine ⟨τ, Ss, Rl, ?_⟩
    replace q : OutI X.K ad xr W τ σ H Ss R (srcE (ag (.op2 .zip ca cb) (ev G C (.op2 .zip ca cb) τ) τ)) := q
    have e0 : ag (.op2 .zip ca cb) (ev G C (.op2 .zip ca cb) τ) τ = ((ev G C ca τ).bind fun x s1 => (ev G C cb s1).bind fun y s2 => (fin2 .zip (.v x.1 x.2) (.v y.1 y.2) s2).bind fun z s3 => .ok (.v z.1 z.2) s3) := by
      rw [ag_none rfl, ev, ag_none na]
      cases ev G C ca τ with
      | ok x s1 =>
        show ((ag cb (ev G C cb s1) s1).bind fun y s2 => fin2 .zip (.v x.1 x.2) y s2).bind _ = _
        rw [ag_none nb]
        show _ = (ev G C cb s1).bind _
        cases ev G C cb s1 <;> rfl
      | ex _ _ _ => rfl
      | bad => rfl
    rw [e0] at q
    cases e : ev G C ca τ with
    | bad => rw [e] at q; exact q
    | ex c fs τ1 => rw [e] at q; exact q
    | ok y τ1 =>
      rw [e] at q
      obtain ⟨t, ow⟩ := y
      intro v H1 Ss1 S p w o
      refine ⟨τ1, Ss1, p.rel, ?_⟩
      replace q : OutI X.K ad xr W τ σ H Ss R (srcE ((ev G C cb τ1).bind fun y s2 => (fin2 .zip (.v t ow) (.v y.1 y.2) s2).bind fun z s3 => .ok (.v z.1 z.2) s3)) := q
      cases e2 : ev G C cb τ1 with
      | bad => rw [e2] at q; exact q
      | ex c fs τ2 => rw [e2] at q; exact fun cls d H' Ss' p' x' => q cls d H' Ss' (p.trans p') x'
      | ok y τ2 =>
        rw [e2] at q
        obtain ⟨u, ow2⟩ := y
        intro v2 H2 Ss2 S2 p2 w2 o2'
        replace q : OutI X.K ad xr W τ σ H Ss R (srcE ((fin2 .zip (.v t ow) (.v u ow2) τ2).bind fun z s3 => .ok (.v z.1 z.2) s3)) := q
        cases t with
        | tup xs =>
          cases u with
          | tup ys =>
            replace q : OutI X.K ad xr W τ σ H Ss R (.ok (zipT xs ys, none) τ2) := q
            have w1' : Val X.K ad τ2 H2 Ss2 (.tup xs) ow v S := w.after p.rel p2
            have o2b := o2'.before p
            obtain ⟨la, lb, vs, ws, ea, eb, sa, sb, hw⟩ := walks_zip w1'.rep w2.rep
            refine ⟨la, lb, vs, ws, by rw [ea, eb], .inr ⟨sa, sb, ?_⟩⟩
            refine q _ H2 Ss2 (S ++ S2) _ (p.trans p2) hw ⟨w1'.rep, w2.rep⟩ (fun E H' fd pk => ?_) (fun c hc => ?_) fun i hi => by cases hi
            · obtain ⟨O, k1, k2, k3⟩ := keepD pk p2.rel.lists fd
              refine ⟨w1'.rep.keep k1 k2 fun c hc z => ?_, w2.rep.keep k1 k2 fun c hc z => ?_⟩
              · rcases k3 c z with z | ⟨_, z1, z2⟩
                · exact w1'.free c hc z.shut
                · exact (o c hc).1.elim z2 z1
              · rcases k3 c z with z | ⟨_, z1, z2⟩
                · exact w2.free c hc z.shut
                · exact (o2b c hc).1.elim z2 z1
            · rcases List.mem_append.mp hc with hc | hc
              · obtain ⟨zs, e⟩ := w1'.rep.lists c hc
                exact ⟨w1'.free c hc, (o c hc).1, by rw [e]; simp⟩
              · obtain ⟨zs, e⟩ := w2.rep.lists c hc
                exact ⟨w2.free c hc, (o2b c hc).1, by rw [e]; simp⟩
          | _ => exact q.elim
        | _ => exact q.elim)⟩
end
/-! ### x[p][k] = v -/
theorem nodup_swap {A B D S : List Addr} (h : (A ++ (B ++ D)).Nodup) (n : S.Nodup) (a : ∀ x ∈ S, x ∉ A) (d : ∀ x ∈ S, x ∉ D) : (A ++ (S ++ D)).Nodup := by
  obtain ⟨h1, h2, h3⟩ := List.nodup_append.mp h
  obtain ⟨h4, h5, h6⟩ := List.nodup_append.mp h2
  refine List.nodup_append.mpr ⟨h1, List.nodup_append.mpr ⟨n, h5, fun x hx y hy e => d x hx (e ▸ hy)⟩, fun x hx y hy e => ?_⟩
  rcases List.mem_append.mp hy with q | q
  · exact a y q (e ▸ hx)
  · exact h3 x hx y (List.mem_append_right _ q) e
section
variable {K : PySem.W.Frag} {ad : Nat → Addr} {H H0 H' : Hp} {τ τ0 : Sl} {σ : St} {Ss Ss0 : Nat → List Addr}
theorem set2_ok {i j k : Nat} {t u : T} {v : V} {S : List Addr} {xs ys : List T} (p : Post K ad τ0 σ H0 Ss0 τ H Ss) (hr : rd τ i = some (.lst xs, .ow)) (hj : xs[j]? = some (.lst ys)) (hk : ys[k]? = some u) (w : Val K ad τ H Ss t true v S) (o : Org τ0 H0 Ss0 true S) :
    ∃ a vs b us, σ[i]? = some (some (.ref a)) ∧ H a = some (.lst vs) ∧ vs.length = xs.length ∧ vs[j]? = some (.ref b) ∧ H b = some (.lst us) ∧ us.length = ys.length ∧ ∃ Ss', Post K ad τ0 σ H0 Ss0 (put τ i (.lst (xs.set j (.lst (ys.set k t)))) .ow) (upd H b (.lst (us.set k v))) Ss' := by
  obtain ⟨a, vs, S', hv, ha, es, l, nd⟩ := p.rel.lst hr
  obtain ⟨n1, n2⟩ := w.mine rfl
  have nd := nd rfl
  rw [es] at nd
  obtain ⟨v0, SA, Sj, SB, h1, h2, h3, h4⟩ := l.split hj
  subst h2
  rw [Rep.lst_iff] at h3
  obtain ⟨b, us, Sk, ev, hb, es3, l3⟩ := h3
  subst ev es3
  obtain ⟨v1, TA, Tk, TB, g1, g2, g3, g4⟩ := l3.split hk
  subst g2
  have nd' : ((a :: (SA ++ b :: TA)) ++ (Tk ++ (TB ++ SB))).Nodup := by simpa using nd
  have inS : ∀ c, c ∈ a :: (SA ++ b :: TA) ∨ c ∈ TB ++ SB → c ∈ Ss i := fun c hc => by
    rw [es]
    rcases hc with q | q
    · rcases List.mem_cons.mp q with e | q
      · simp [e]
      · rcases List.mem_append.mp q with q | q
        · simp [q]
        · rcases List.mem_cons.mp q with e | q
          · simp [e]
          · simp [q]
    · rcases List.mem_append.mp q with q | q <;> simp [q]
  have nd2 : ((a :: (SA ++ b :: TA)) ++ (S ++ (TB ++ SB))).Nodup := nodup_swap nd' n1 (fun x hx q => n2 x hx i (inS x (.inl q))) fun x hx q => n2 x hx i (inS x (.inr q))
  have nbS : b ∉ S := fun h => n2 b h i (inS b (.inl (by simp)))
  have cnt : ∀ c, c ∈ SA ∨ c = a ∨ c ∈ TA ∨ c ∈ TB ∨ c ∈ SB → c ≠ b := by
    intro c hc e
    subst e
    obtain ⟨q1, q2, q3⟩ := List.nodup_append.mp nd'
    obtain ⟨r1, r2⟩ := List.nodup_cons.mp q1
    obtain ⟨r3, r4, r5⟩ := List.nodup_append.mp r2
    obtain ⟨r6, r7⟩ := List.nodup_cons.mp r4
    rcases hc with hc | hc | hc | hc | hc
    · exact r5 c hc c (by simp) rfl
    · exact r1 (by rw [← hc]; simp)
    · exact r6 hc
    · exact q3 c (by simp) c (by simp [hc]) rfl
    · exact q3 c (by simp) c (by simp [hc]) rfl
  have hjl : j < vs.length := by
    rcases Nat.lt_or_ge j vs.length with q | q
    · exact q
    · rw [List.getElem?_eq_none q] at h1; cases h1
  have same : vs.set j (.ref b) = vs := by
    refine List.ext_getElem? fun m => ?_
    by_cases e : m = j
    · subst e; rw [List.getElem?_set_self hjl, h1]
    · rw [List.getElem?_set_ne (Ne.symm e)]
  have nab : a ≠ b := cnt a (.inr (.inl rfl))
  refine ⟨a, vs, b, us, hv, ha, l.length.symm, h1, hb, l3.length.symm, _, p.chg (S2 := a :: (SA ++ ((b :: (TA ++ (S ++ TB))) ++ SB))) (O := fun c => c = b) hr hv ?_ (by simpa using nd2) keep_upd (lists_one hb) (fun c e => by rw [e]; exact inS b (.inl (by simp))) there_upd fun c hc => ?_⟩
  · have inner : Rep K ad (upd H b (.lst (us.set k v))) (.lst (ys.set k t)) (.ref b) (b :: (TA ++ (S ++ TB))) := by
      rw [Rep.lst_iff]
      exact ⟨b, _, _, rfl, upd_same, rfl, g4 keep_upd (lists_one hb) (fun c hc e => cnt c (.inr (.inr (.inl hc))) e) (fun c hc e => cnt c (.inr (.inr (.inr (.inl hc)))) e) (w.rep.keep keep_upd (lists_one hb) fun c hc e => nbS (e ▸ hc))⟩
    rw [Rep.lst_iff]
    have q := h4 (O := fun c => c = b) keep_upd (lists_one hb) (fun c hc e => cnt c (.inl hc) e) (fun c hc e => cnt c (.inr (.inr (.inr (.inr hc)))) e) inner
    rw [same] at q
    exact ⟨a, vs, _, rfl, by rw [upd_ne nab]; exact ha, rfl, q⟩
  · by_cases hS : c ∈ S
    · right; exact ⟨n2 c hS, (o c hS).2 rfl⟩
    · left
      refine inS c ?_
      rcases List.mem_cons.mp hc with e | e
      · left; simp [e]
      · rcases List.mem_append.mp e with e | e
        · left; simp [e]
        · rcases List.mem_append.mp e with e | e
          · rcases List.mem_cons.mp e with e | e
            · left; simp [e]
            · rcases List.mem_append.mp e with e | e
              · left; simp [e]
              · rcases List.mem_append.mp e with e | e
                · exact absurd e hS
                · right; simp [e]
          · right; simp [e]
end
section
variable {X : Cx} {ad : Nat → Addr} {xr : Nat → List T → Value → Option Addr → Hp → Prop} {W : WX} {A : List Nat} {G : Pg} {C : Nat → List T → CR} {pos p1 p2 p3 p4 : PySem.Pos} {e : Expr} {ce : E} {i : Nat} {x : Str}
theorem x_stI2 {px kx : Expr} {cp ck : E} {tp tq : PySem.Pos} (hN : PE X (.Name x p1) (L2.tVar i)) (h1 : isSlice px = false) (hpp : pureC cp = true) (hpk : pureC ck = true) (hp : PE X px (pR X.K ad G C cp)) (hk : PE X kx (pR X.K ad G C ck)) (he : PE X e (eR X.K ad xr W (ev G C ce)))
    (ha : ∀ v, PySem.assign (.Subscript (.Subscript (.Name x p1) px tq) kx tp) X.env v = (do
      let ov ← PySem.holding [v] (PySem.eval (.Subscript (.Name x p1) px tq) X.env)
      let iv ← PySem.holding [v, ov] (PySem.eval kx X.env)
      PySem.standAt tp
      PySem.holding [v, ov, iv] (PySem.setItem ov iv v)
      PySem.release [v, ov, iv] []))
    (hs : PySem.swapsWithSole [.Subscript (.Subscript (.Name x p1) px tq) kx tp] e pos.line X.env = pure false) (hw : PySem.swappedStores [.Subscript (.Subscript (.Name x p1) px tq) kx tp] e X.env = pure none) :
    PS X (.Assign [.Subscript (.Subscript (.Name x p1) px tq) kx tp] e pos) (sR X.K ad xr W A (ex1 G C (.stI i [cp] ck ce))) :=
  PS.imp (L2.ps_asg he (L2.pg_sub (L2.pe_ix L2.ix_seq hN hp (plain_ix h1)) hk L2.set_list ha) hs hw rfl) fun D σ H hlen ⟨τ, Ss, R, q⟩ => by
    rw [ex1] at q
    refine ⟨τ, Ss, R, q.step fun y τ1 v H1 Ss1 S _ p w o q1 => ?_⟩
    split at q1
    case isFalse => exact q1.elim
    rename_i hsm
    obtain ⟨⟨u0, w0⟩, e0⟩ := Option.isSome_iff_exists.mp hsm
    obtain ⟨v0, hv, _, _⟩ := p.rel.get e0
    rw [evs] at q1
    rcases pure_ev (G := G) (C := C) cp hpp τ1 with z1 | ⟨y1, z1⟩
    · rw [z1] at q1; exact q1.elim
    rw [z1] at q1
    replace q1 : OutF X.K ad xr W A τ σ H Ss D ((ev G C ck τ1).fl fun k s3 => stR i [y1] k.1 y s3) := by
      have e1 : (evs G C [] τ1) = .ok [] τ1 := by rw [evs]
      simp only [Rv.bind, e1] at q1
      exact q1
    rcases pure_ev (G := G) (C := C) ck hpk τ1 with z2 | ⟨y2, z2⟩
    · rw [z2] at q1; exact q1.elim
    rw [z2] at q1
    replace q1 : OutF X.K ad xr W A τ σ H Ss D (stR i [y1] y2.1 y τ1) := q1
    unfold stR at q1
    split at q1
    · rename_i xs hr hp; cases hp
    · rename_i xs kp op hr hpath
      injection hpath with hpath _
      subst hpath
      split at q1
      case isFalse => exact q1.elim
      rename_i hy
      split at q1
      case h_2 => exact q1.elim
      rename_i j hj
      split at q1
      case h_2 => exact q1.elim
      rename_i ys hys
      split at q1
      case h_2 => exact q1.elim
      rename_i zs hst
      unfold stL at hst
      split at hst
      case h_2 => cases hst
      rename_i n hkn
      obtain ⟨k, hk', ez⟩ := Option.map_eq_some_iff.mp hst
      subst ez
      obtain ⟨t2, o2'⟩ := y2
      simp only at hkn
      subst hkn
      refine ⟨v0, hv, τ1, Ss1, p.rel, kp, op, z1, fun H2 g12 => ?_⟩
      -- the inner list
      have P2 := p.trans (Post.grow p.rel g12)
      have w2 := w.grow g12
      rw [hy] at w2 o
      have hlt : k < ys.length := ixN_lt hk'
      obtain ⟨a, vs, b, us, c1, c2, c3, c4, c5, c6, _⟩ := set2_ok P2 hr hys (List.getElem?_eq_getElem hlt) w2 o
      rw [hv] at c1; cases c1
      refine .inl ⟨a, vs, kp, .ref b, rfl, rfl, SqL.of c2, ?_, τ1, Ss1, P2.rel, n, o2', z2, fun H3 g23 => ?_⟩
      · unfold L2.atI
        have e : L2.ixN vs.length kp = some j := by rw [c3]; exact hj
        rw [e]; exact c4
      · have P3 := p.trans (Post.grow p.rel (g12.trans g23))
        have w3 := w.grow (g12.trans g23)
        rw [hy] at w3
        obtain ⟨a', vs', b', us', d1, d2, d3, d4, d5, d6, Ss', p'⟩ := set2_ok P3 hr hys (List.getElem?_eq_getElem hlt) w3 o
        rw [hv] at d1; cases d1
        have e2 := g23 _ _ c2
        rw [d2] at e2; cases e2
        rw [c4] at d4; cases d4
        refine ⟨b, us', n, k, rfl, rfl, d5, by rw [d6]; exact hk', ?_⟩
        exact q1 σ _ Ss' p' (Fr.refl A σ)
    · exact q1.elim
end
end M
end

section
set_option Elab.async false
set_option autoImplicit false
set_option linter.all false
set_option maxRecDepth 100000
set_option maxHeartbeats 4000000
/-! SoundR: the check that an expression is the given Mini text, and what it gives. -/
namespace M
open PySem (Addr Str PyData Operator CmpOp UnaryOp Value Expr Stmt Scope NameKind ExceptHandler)
open L2 (V Hp HO SqT SqL Rd upd upd_same upd_ne St VK XK WX TE TT TA TG TGs TI TS It R2 OpR UnR CallR Dp DpAll rI0 rI Cx Room TruV PE PT PW PA PG PGs PI PTs PS PSs PMk Ends Inv Vis Loc Gl Takes Sp FnOk Binds)
section
variable {X : Cx} {ad : Nat → Addr} {xr : Nat → List T → Value → Option Addr → Hp → Prop} {W : WX} {G : Pg} {C : Nat → List T → CR} {pos p1 p2 p3 : PySem.Pos} {a b c e : Expr} {ca cb cc : E} {i : Nat} {x : Str}
theorem i_op2 {o : O2} {r : R2} (sound : ∀ {H : Hp} {t u z : T} {v w : V} {S S' : List Addr} {Q : VK}, o2 o t u = some z → Rep X.K ad H t v S → Rep X.K ad H u w S' → OpP X.K ad H o.rk z (S ++ S') Q → r v w H Q) {σ : St} {H : Hp} {Q : VK}
    (h : eR X.K ad xr W (ev G C (.op2 o ca cb)) σ H Q) : L2.tOp r (agR X.K ad xr W fun s => ag ca (ev G C ca s) s) (agR X.K ad xr W fun s => ag cb (ev G C cb s) s) σ H Q := by
  obtain ⟨τ, Ss, R, q⟩ := h
  rw [ev] at q
  refine ⟨τ, Ss, R, OutA.step (Post.refl R) q fun x τ1 v H1 Ss1 S _ p1 w1 o1' q1 => ?_⟩
  refine ⟨τ1, Ss1, p1.rel, OutA.step p1 q1 fun y τ2 u H2 Ss2 S' _ p2 w2 o2' q2 => ?_⟩
  obtain ⟨t, u', z, S1, S2, r1, r2, hz, op⟩ := Out.fin2 (p1.trans p2) (w1.after p1.rel p2) o1' w2 (o2'.before p1) q2
  exact sound hz r1 r2 op
theorem i_op1 {o : O1} {r : V → Hp → VK → Prop} (sound : ∀ {H : Hp} {t z : T} {v : V} {S : List Addr} {Q : VK}, o1 o t = some z → Rep X.K ad H t v S → OpP X.K ad H o.rk z S Q → r v H Q) {σ : St} {H : Hp} {Q : VK}
    (h : eR X.K ad xr W (ev G C (.op1 o ca)) σ H Q) : (agR X.K ad xr W fun s => ag ca (ev G C ca s) s) σ H fun x H1 => r x H1 Q := by
  obtain ⟨τ, Ss, R, q⟩ := h
  rw [ev] at q
  refine ⟨τ, Ss, R, OutA.step (Post.refl R) q fun y τ1 v H1 Ss1 S _ p1 w1 o1' q1 => ?_⟩
  obtain ⟨t, z, S1, rp, hz, op⟩ := Out.fin1 p1 w1 o1' q1
  exact sound hz rp op
theorem fin_ok {k : Rk} {l : Bool} {z : Option T} {s : Sl} {x : T × Bool} {s' : Sl} (h : fin k l z s = .ok x s') : z = some x.1 := by
  unfold fin at h
  cases z with
  | none => cases h
  | some t =>
    simp only at h
    split at h
    · split at h <;> cases h; rfl
    · cases h; rfl
theorem fin2_ok {o : O2} {y z : Ag} {s : Sl} {x : T × Bool} {s' : Sl} (h : fin2 o y z s = .ok x s') : ∃ t u, o2 o t u = some x.1 := by
  unfold fin2 at h
  split at h
  · exact ⟨_, _, fin_ok h⟩
  · cases h
theorem fin1_ok {o : O1} {y : Ag} {s : Sl} {x : T × Bool} {s' : Sl} (h : fin1 o y s = .ok x s') : ∃ t, o1 o t = some x.1 := by
  unfold fin1 at h
  split at h
  · exact ⟨_, fin_ok h⟩
  · cases h
theorem bind_ok {α β : Type} {r : Rv α} {k : α → Sl → Rv β} {x : β} {s : Sl} (h : r.bind k = .ok x s) : ∃ y s1, r = .ok y s1 ∧ k y s1 = .ok x s := by
  cases r with
  | ok y s1 => exact ⟨y, s1, rfl, h⟩
  | ex _ _ _ => cases h
  | bad => cases h
theorem cop_bl {op : CmpOp} {o : O2} (h : cop op = some o) {t u z : T} (hz : o2 o t u = some z) : ∃ k, z = .bl k := by
  cases op <;> simp only [cop, Option.some.injEq, reduceCtorEq] at h <;> subst h
  · simp only [o2, eqT] at hz; split at hz <;> cases hz; exact ⟨_, rfl⟩
  · simp only [o2, neT] at hz; split at hz <;> cases hz; exact ⟨_, rfl⟩
  · cases t <;> cases u <;> simp only [o2, reduceCtorEq, Option.some.injEq] at hz; exact ⟨_, hz.symm⟩
  · cases t <;> cases u <;> simp only [o2, reduceCtorEq, Option.some.injEq] at hz; exact ⟨_, hz.symm⟩
  · cases t <;> cases u <;> simp only [o2, reduceCtorEq, Option.some.injEq] at hz; exact ⟨_, hz.symm⟩
  · cases t <;> cases u <;> simp only [o2, reduceCtorEq, Option.some.injEq] at hz; exact ⟨_, hz.symm⟩
  · cases t <;> cases u <;> simp only [o2, reduceCtorEq, Option.some.injEq] at hz; exact ⟨_, hz.symm⟩
  · cases t <;> cases u <;> simp only [o2, reduceCtorEq, Option.some.injEq] at hz; exact ⟨_, hz.symm⟩
  · obtain ⟨k, _, e⟩ := Option.map_eq_some_iff.mp (show (memT t u).map T.bl = some z from hz); exact ⟨k, e.symm⟩
  · obtain ⟨k, _, e⟩ := Option.map_eq_some_iff.mp (show ((memT t u).map fun k => T.bl (!k)) = some z from hz); exact ⟨_, e.symm⟩
theorem pt_cmp {k : Nat} (hr : Room k X.A) {op : CmpOp} {o : O2} (h : cop op = some o) (hm : PySem.behindInMarks op b = false) (ha : PAg X ad xr W G C ca a) (hb : PAg X ad xr W G C cb b) : PT X (.Compare a [op] [b] pos) (tR X.K ad xr W (ev G C (.op2 o ca cb))) :=
  t_cmp (L2.pt_cmpR (cop_ok hr h) ha hb hm) (fun σ H Q => i_op2 fun {H t u z v w S S' Q} hz r1 r2 q => o2_sound (cop_read h) hz r1 r2 q) fun s y s' e => by
    rw [ev] at e
    obtain ⟨_, _, _, e⟩ := bind_ok e
    obtain ⟨_, _, _, e⟩ := bind_ok e
    obtain ⟨t, u, e⟩ := fin2_ok e
    exact cop_bl h e
theorem pt_isN {j p'} (ha : PAg X ad xr W G C ca a) : PT X (.Compare a [.Is] [.Constant .none j p'] pos) (tR X.K ad xr W (ev G C (.op1 .isN ca))) :=
  t_cmp (L2.pt_cmpR L2.op_isN ha L2.pe_non (L2.nomark _)) (fun σ H Q => i_op1 (r := fun x H Q => V.non = .non ∧ Q (.bl (decide (x = .non))) H) fun {H t z v S Q} hz r q => by
    rw [non_of hz r] at q
    exact ⟨rfl, q.bl⟩) fun s y s' e => by
    rw [ev] at e
    obtain ⟨_, _, _, e⟩ := bind_ok e
    obtain ⟨t, e⟩ := fin1_ok e
    cases t <;> simp only [o1, reduceCtorEq, Option.some.injEq] at e <;> exact ⟨_, e.symm⟩
theorem pt_notN {j p'} (ha : PAg X ad xr W G C ca a) : PT X (.Compare a [.IsNot] [.Constant .none j p'] pos) (tR X.K ad xr W (ev G C (.op1 .notN ca))) :=
  t_cmp (L2.pt_cmpR L2.op_notN ha L2.pe_non (L2.nomark _)) (fun σ H Q => i_op1 (r := fun x H Q => V.non = .non ∧ Q (.bl (!decide (x = .non))) H) fun {H t z v S Q} hz r q => by
    rw [notN_eq] at hz
    obtain ⟨y, hy, ez⟩ := Option.map_eq_some_iff.mp hz
    rw [non_of hy r] at ez
    subst ez
    exact ⟨rfl, q.bl⟩) fun s y s' e => by
    rw [ev] at e
    obtain ⟨_, _, _, e⟩ := bind_ok e
    obtain ⟨t, e⟩ := fin1_ok e
    cases t <;> simp only [o1, reduceCtorEq, Option.some.injEq] at e <;> exact ⟨_, e.symm⟩
theorem p_chain {k : Nat} (hr : Room k X.A) {op op' : CmpOp} {o o' : O2} (h : cop op = some o) (h' : cop op' = some o') (hm : PySem.lastMarks [op, op'] [b, c] = false) (ha : PE X a (eR X.K ad xr W (ev G C ca))) (hb : PE X b (eR X.K ad xr W (ev G C cb))) (hc : PE X c (eR X.K ad xr W (ev G C cc))) :
    PE X (.Compare a [op, op'] [b, c] pos) (eR X.K ad xr W (ev G C (.chain o o' ca cb cc))) :=
  PE.imp (L2.pe_chain (cop_ok hr h) (cop_ok hr h') ha hb hc hm) fun σ H Q q => i_chain (cop_read h) (cop_read h') q
theorem pt_chain {k : Nat} (hr : Room k X.A) {op op' : CmpOp} {o o' : O2} (h : cop op = some o) (h' : cop op' = some o') (hm : PySem.lastMarks [op, op'] [b, c] = false) (ha : PE X a (eR X.K ad xr W (ev G C ca))) (hb : PE X b (eR X.K ad xr W (ev G C cb))) (hc : PE X c (eR X.K ad xr W (ev G C cc))) :
    PT X (.Compare a [op, op'] [b, c] pos) (tR X.K ad xr W (ev G C (.chain o o' ca cb cc))) :=
  t_cmp (L2.pt_chain (cop_ok hr h) (cop_ok hr h') ha hb hc hm) (fun σ H Q q => i_chain (cop_read h) (cop_read h') q) fun s y s' e => by
    rw [ev] at e
    obtain ⟨y1, s1, _, e⟩ := bind_ok e
    obtain ⟨y2, s2, _, e⟩ := bind_ok e
    split at e
    · obtain ⟨y3, s3, _, e⟩ := bind_ok e
      obtain ⟨t, u, e⟩ := fin2_ok e
      exact cop_bl h' e
    · cases e; exact ⟨_, rfl⟩
    · cases e
theorem p_not (ha : PAg X ad xr W G C ca a) : PE X (.UnaryOp .Not a pos) (eR X.K ad xr W (ev G C (.op1 .notO ca))) :=
  s_op1 (ta := fun _ _ _ => True) (r := fun x H Q => ∃ k, TruV X.K x H k ∧ Q (.bl (!k)) H) (fun ta h => L2.pe_notT h) ha fun {H t z v S Q} hz r q => by
    obtain ⟨k, hk, ez⟩ := Option.map_eq_some_iff.mp (show t.tr.map (fun b => T.bl (!b)) = some z from hz)
    subst ez
    exact ⟨k, tru_sound hk r, q.bl⟩
end

/-! ### the check -/
structure Stc where
  N : List Str
  fnm : List Str
  knm : List Str
  dnm : List Str
def vis (N : List Str) (sc : Scope) (i : Nat) (x : Str) : Bool := decide (N[i]? = some x) && (match sc.names.lookup x with | some .local => true | some .cell => true | some .free => true | _ => false) && !(x == ("__debug__" : Str)) && !(x == ("__classdict__" : Str))
def glb (sc : Scope) (x : Str) : Bool := (match sc.names.lookup x with | some .globalImplicit => true | _ => false) && !(x == ("__debug__" : Str))
/-- the built-in names in use -/
def blts : List Str := ["len", "tuple", "list", "sum", "any", "all", "abs", "int", "isinstance", "bool", "str", "range", "sorted", "set", "zip"]
def conC : T → PySem.Const → Bool
  | .non, .none => true
  | .bl a, .bool b => a == b
  | .int a, .int b => decide (a = b)
  | .str a, .str b => decide (a = b)
  | _, _ => false
inductive Vw where
  | e (x : Expr) | a (x : Expr) | b (op : PySem.BoolOp) (es : List Expr) | t (x : Expr) | tb (op : PySem.BoolOp) (es : List Expr) | i (x : Expr) | iz (x : Expr)
def normT : Expr → Vw
  | .BoolOp op (x :: y :: r) _ => .tb op (x :: y :: r)
  | .BoolOp op es p => .i (.BoolOp op es p)
  | .UnaryOp .Not x p => .t (.UnaryOp .Not x p)
  | .Compare l o r p => .t (.Compare l o r p)
  | .IfExp a b c p => .i (.IfExp a b c p)
  | .UnaryOp o x p => .i (.UnaryOp o x p)
  | x => .e x
def isRg : E → Bool
  | .op1 .rng _ => true
  | .op2 .rng2 _ _ => true
  | _ => false
def norm (c : E) : Vw → Vw
  | .e x => .e x
  | .a x => if c.asBrw.isSome then .a x else .e x
  | .b op [y] => .e y
  | .b op es => .b op es
  | .t x => normT x
  | .tb op [y] => normT y
  | .tb op es => .tb op es
  | .i x => if isRg c then .i x else if c.asBrw.isSome then .a x else .e x
  | .iz x => .iz x
def isZp : E → Bool
  | .op2 .zip _ _ => true
  | _ => false
def isTupE : Expr → Bool
  | .Tuple _ _ _ => true
  | _ => false
/-- a source, seen by its target -/
def srcV (c : E) (tg x : Expr) : Vw := if isZp c && isTupE tg then .iz x else .i x
def isSet : Expr → Bool
  | .Set _ _ _ => true
  | _ => false
def isCall : Expr → Bool
  | .Call _ _ _ _ => true
  | _ => false
def ownP (N : List Str) (own : List Nat) : List (Str × Nat) := own.filterMap fun i => (N[i]?).map fun x => (x, i)
/-- ints that change nothing -/
def chkP (N : List Str) (sc : Scope) : E → Expr → Bool
  | .var i, .Name x _ => vis N sc i x
  | .con (.int k), .Constant (.int j) _ _ => decide (k = j)
  | .op1 .neg a, .UnaryOp .USub x _ => a.asBrw.isNone && pureC a && chkP N sc a x
  | .op2 .add a b, .BinOp x .Add y _ => a.asBrw.isNone && pureC a && chkP N sc a x && b.asBrw.isNone && pureC b && chkP N sc b y
  | .op2 .sub a b, .BinOp x .Sub y _ => a.asBrw.isNone && pureC a && chkP N sc a x && b.asBrw.isNone && pureC b && chkP N sc b y
  | .op2 .idx (.brw i) b, .Subscript (.Name x _) y _ => vis N sc i x && !isSlice y && b.asBrw.isNone && pureC b && chkP N sc b y
  | _, _ => false
mutual
def chk (P : Stc) : Scope → E → Vw → Bool
  | sc, .var i, v => (match norm (.var i) v with
    | .e (.Name x _) => vis P.N sc i x
    | _ => false)
  | sc, .mov i, v => (match norm (.mov i) v with
    | .e (.Name x _) => vis P.N sc i x
    | _ => false)
  | sc, .brw i, v => (match norm (.brw i) v with
    | .a (.Name x _) => vis P.N sc i x
    | _ => false)
  | sc, .con t, v => (match norm (.con t) v with
    | .e (.Constant k _ _) => conC t k
    | _ => false)
  | sc, .gl k, v => (match norm (.gl k) v with
    | .e (.Name x _) => decide (P.knm[k]? = some x) && glb sc x
    | _ => false)
  | sc, .op1 o a, v => (match norm (.op1 o a) v with
    | .e (.UnaryOp .USub x _) => decide (o = .neg) && chk P sc a (.a x)
    | .e (.UnaryOp .Invert x _) => decide (o = .inv) && chk P sc a (.a x)
    | .e (.UnaryOp .Not x _) => decide (o = .notO) && chk P sc a (.a x)
    | .t (.UnaryOp .Not x _) => decide (o = .notO) && a.asBrw.isNone && chk P sc a (.t x)
    | .e (.Compare x [.Is] [.Constant .none _ _] _) => decide (o = .isN) && chk P sc a (.a x)
    | .e (.Compare x [.IsNot] [.Constant .none _ _] _) => decide (o = .notN) && chk P sc a (.a x)
    | .t (.Compare x [.Is] [.Constant .none _ _] _) => decide (o = .isN) && chk P sc a (.a x)
    | .t (.Compare x [.IsNot] [.Constant .none _ _] _) => decide (o = .notN) && chk P sc a (.a x)
    | .e (.Call (.Name f _) [x] [] _) => (match nm1 o with | some (n, _) => decide (n = f) && blts.contains f && glb sc f && !isStar x && chk P sc a (.a x) | none => (match o, x with
      | .lrg, .Call (.Name g _) [y] [] _ => decide (f = "list") && decide (g = "range") && glb sc f && glb sc g && !isStar y && chk P sc a (.a y)
      | .trg, .Call (.Name g _) [y] [] _ => decide (f = "tuple") && decide (g = "range") && glb sc f && glb sc g && !isStar y && chk P sc a (.a y)
      | .lenSet, .Call (.Name g _) [y] [] _ => decide (f = "len") && decide (g = "set") && glb sc f && glb sc g && !isStar y && chk P sc a (.a y)
      | .sorted, _ => decide (f = "sorted") && glb sc f && !isStar x && chk P sc a (.a x)
      | _, _ => false))
    | .e (.Call (.Attribute x n p2) [.Constant (.str sep) _ _] [] p3) => decide (o = .split sep) && decide (n = "split") && !isCall x && (p2.endLine == p3.line) && chk P sc a (.a x)
    | .e (.Call (.Name f _) [x, .Name y _] [] _) => (match o with | .isK k => decide (f = "isinstance") && decide (y = Str.ofString k.nm) && blts.contains y && glb sc f && glb sc y && !isStar x && chk P sc a (.a x) | _ => false)
    | .e (.Subscript x (.Slice none none (some (.UnaryOp .USub (.Constant (.int 1) _ _) _)) _) _) => decide (o = .rev) && chk P sc a (.a x)
    | .i (.Call (.Name f _) [x] [] _) => decide (o = .rng) && decide (f = "range") && glb sc f && !isStar x && a.asBrw.isNone && chk P sc a (.e x)
    | _ => false)
  | sc, .op2 o a b, v => (match norm (.op2 o a b) v with
    | .e (.BinOp x op y _) => decide (bop op = some o) && chk P sc a (.a x) && chk P sc b (.a y)
    | .e (.Compare x [op] [y] _) => decide (cop op = some o) && !PySem.behindInMarks op y && chk P sc a (.a x) && chk P sc b (.a y)
    | .t (.Compare x [op] [y] _) => decide (cop op = some o) && !PySem.behindInMarks op y && chk P sc a (.a x) && chk P sc b (.a y)
    | .e (.Subscript x (.Slice (some y) none none _) _) => decide (o = .from) && chk P sc a (.a x) && chk P sc b (.a y)
    | .e (.Subscript x (.Slice none (some y) none _) _) => decide (o = .upto) && chk P sc a (.a x) && chk P sc b (.a y)
    | .e (.Subscript x y _) => decide (o = .idx) && !isSlice y && chk P sc a (.a x) && chk P sc b (.a y)
    | .iz (.Call (.Name f _) [x, y] [] _) => decide (o = .zip) && decide (f = "zip") && glb sc f && !isStar x && !isStar y && a.asBrw.isNone && b.asBrw.isNone && chk P sc a (.e x) && chk P sc b (.e y)
    | .e (.Call (.Name f _) [.Subscript x y _] [] _) => decide (o = .lenAt) && decide (f = "len") && glb sc f && !isSlice y && chk P sc a (.a x) && chk P sc b (.a y)
    | _ => false)
  | sc, .op3 o a b c, v => (match norm (.op3 o a b c) v with
    | .e (.Subscript x (.Slice (some y) (some z) none _) _) => decide (o = .cut) && chk P sc a (.a x) && chk P sc b (.a y) && chk P sc c (.a z)
    | .e (.Subscript (.Subscript x y _) z _) => decide (o = .idx2) && !isSlice y && !isSlice z && c.asBrw.isNone && pureC c && chk P sc a (.a x) && chk P sc b (.a y) && chkP P.N sc c z
    | _ => false)
  | sc, .and a b, v => (match norm (.and a b) v with
    | .e (.BoolOp .And (x :: y :: r) _) => chk P sc a (.e x) && chk P sc b (.b .And (y :: r))
    | .b .And (x :: y :: r) => chk P sc a (.e x) && chk P sc b (.b .And (y :: r))
    | .tb .And (x :: y :: r) => chk P sc a (.t x) && chk P sc b (.tb .And (y :: r))
    | _ => false)
  | sc, .or a b, v => (match norm (.or a b) v with
    | .e (.BoolOp .Or (x :: y :: r) _) => chk P sc a (.e x) && chk P sc b (.b .Or (y :: r))
    | .b .Or (x :: y :: r) => chk P sc a (.e x) && chk P sc b (.b .Or (y :: r))
    | .tb .Or (x :: y :: r) => chk P sc a (.t x) && chk P sc b (.tb .Or (y :: r))
    | _ => false)
  | sc, .ite c a b, v => (match norm (.ite c a b) v with
    | .e (.IfExp x y z _) => chk P sc c (.t x) && chk P sc a (.e y) && chk P sc b (.e z)
    | _ => false)
  | sc, .chain o o' a b c, v => (match norm (.chain o o' a b c) v with
    | .e (.Compare x [op, op'] [y, z] _) => decide (cop op = some o) && decide (cop op' = some o') && !PySem.lastMarks [op, op'] [y, z] && chk P sc a (.e x) && chk P sc b (.e y) && chk P sc c (.e z)
    | .t (.Compare x [op, op'] [y, z] _) => decide (cop op = some o) && decide (cop op' = some o') && !PySem.lastMarks [op, op'] [y, z] && chk P sc a (.e x) && chk P sc b (.e y) && chk P sc c (.e z)
    | _ => false)
  | sc, .tup es, v => (match norm (.tup es) v with
    | .e (.Tuple xs _ _) => chkL P sc es xs
    | _ => false)
  | sc, .lst es, v => (match norm (.lst es) v with
    | .e (.List xs _) => chkL P sc es xs
    | _ => false)
  | sc, .lc t it cs elt own, v => (match norm (.lc t it cs elt own) v with
    | .e (.ListComp x [⟨tg, ix, ifs, 0⟩] s2 _) => chk P sc it (srcV it tg ix) && !isSet ix && L2.blkC P.N sc s2 (ownP P.N own) && decide ((ownP P.N own).map (·.2) = own) && chkTg P.N s2 t tg && (t.slots.all fun i => own.contains i) && decide (cs.length ≤ 1) && chkT P s2 cs ifs && chk P s2 elt (.e x)
    | _ => false)
  | sc, .lc2 t it t1 it1 cs elt own own1, v => (match norm (.lc2 t it t1 it1 cs elt own own1) v with
    | .e (.ListComp x [⟨tg, ix, [], 0⟩, ⟨tg1, ix1, ifs, 0⟩] s2 _) => chk P sc it (srcV it tg ix) && !isSet ix && L2.blkC P.N sc s2 (ownP P.N own) && decide ((ownP P.N own).map (·.2) = own) && chkTg P.N s2 t tg && (t.slots.all fun i => own.contains i) &&
      chk P s2 it1 (srcV it1 tg1 ix1) && !isSet ix1 && chkTg P.N s2 t1 tg1 && (t1.slots.all fun i => own1.contains i) && (own1.all fun i => own.contains i) && decide (cs.length ≤ 1) && chkT P s2 cs ifs && chk P s2 elt (.e x)
    | _ => false)
  | sc, .call f es, v => (match norm (.call f es) v with
    | .e (.Call (.Name x _) xs [] _) => decide (P.fnm[f]? = some x) && glb sc x && chkG P sc es xs
    | _ => false)
  | sc, .pop i [], v => (match norm (.pop i []) v with
    | .e (.Call (.Attribute (.Name x _) n q) [] [] q') => decide (n = "pop") && vis P.N sc i x && (q.endLine == q'.line)
    | _ => false)
  | sc, .pop i [c], v => (match norm (.pop i [c]) v with
    | .e (.Call (.Attribute (.Name x _) n q) [y] [] q') => decide (n = "pop") && vis P.N sc i x && !isStar y && (q.endLine == q'.line) && chk P sc c (.e y)
    | _ => false)
  | sc, .dget j a, v => (match norm (.dget j a) v with
    | .e (.Subscript (.Name x _) y _) => decide (P.dnm[j]? = some x) && glb sc x && !isSlice y && chk P sc a (.a y)
    | _ => false)
  | _, _, _ => false
def chkL (P : Stc) : Scope → List E → List Expr → Bool
  | _, [], [] => true
  | sc, c :: cs, x :: xs => !isStar x && chk P sc c (.e x) && chkL P sc cs xs
  | _, _, _ => false
def chkG (P : Stc) : Scope → List E → List Expr → Bool
  | _, [], [] => true
  | sc, c :: cs, x :: xs => !isStar x && chk P sc c (.a x) && chkG P sc cs xs
  | _, _, _ => false
def chkT (P : Stc) : Scope → List E → List Expr → Bool
  | _, [], [] => true
  | sc, c :: cs, x :: xs => chk P sc c (.t x) && chkT P sc cs xs
  | _, _, _ => false
end
end M
end

section
set_option Elab.async false
set_option autoImplicit false
set_option linter.all false
set_option maxRecDepth 100000
set_option maxHeartbeats 8000000
/-! SoundS: what the check gives. -/
namespace M
open PySem (Addr Str PyData Operator CmpOp UnaryOp Value Expr Stmt Scope NameKind ExceptHandler)
open L2 (V Hp HO SqT SqL Rd upd upd_same upd_ne St VK XK WX TE TT TA TG TGs TI TS It R2 OpR UnR CallR Dp DpAll rI0 rI Cx Room TruV PE PT PW PA PG PGs PI PTs PS PSs PMk Ends Inv Vis Loc Gl Takes Sp FnOk Binds)
/-- a context in which Mini's text is read -/
structure XOk (P : Stc) (G : Pg) (C : Nat → List T → CR) (ad : Nat → Addr) (xr : Nat → List T → Value → Option Addr → Hp → Prop) (k : Nat) (sc : Scope) (X : Cx) (W : WX) : Prop where
  hN : X.N = P.N
  nd : X.N.Nodup
  calm : X.calm = true
  room : Room k X.A
  tk : Takes X W
  scs : ScOk sc X
  kind : X.env.scope.kind = .function
  fns : ∀ (f : Nat) (x : Str), P.fnm[f]? = some x → X.mg x = some (.ref (ad f)) ∧ PySem.W.keepIn X.K (.ref (ad f)) = true ∧ ∃ fd ps F, G.fns[f]? = some F ∧ FnOk X.prog X.w X.K X.mg X.base (L2.CX X.prog X.w) k (ad f) fd ps (spOf X.K ad xr F.md (C f)) ∧ Binds X.K fd ps []
  cons : ∀ (j : Nat) (x : Str), P.knm[j]? = some x → ∃ t u v, G.consts[j]? = some t ∧ X.mg x = some u ∧ L2.RelV v u ∧ ∀ H, Rep X.K ad H t v []
  blt : ∀ x ∈ blts, X.mg x = none
  dics : ∀ (j : Nat) (x : Str), P.dnm[j]? = some x → ∃ d u, G.dics[j]? = some d ∧ X.mg x = some (.ref u) ∧ DicAt X ad d u
section
variable {P : Stc} {G : Pg} {C : Nat → List T → CR} {ad : Nat → Addr} {xr : Nat → List T → Value → Option Addr → Hp → Prop} {k : Nat} {X : Cx} {W : WX} {pos p1 p2 p3 : PySem.Pos} {a b c e : Expr} {ca cb cc : E} {i : Nat} {x : Str}
variable {sc : Scope}
theorem lookup_relabel {env : PySem.Env} {x : Str} : ∀ (names : List (Str × NameKind)), (names.map fun (n, k) => if (k == NameKind.free && env.scope.kind == .function && env.kindOf n == some .cell) then (n, NameKind.cell) else (n, k)).lookup x = (names.lookup x).map fun k => if (k == NameKind.free && env.scope.kind == .function && env.kindOf x == some .cell) then NameKind.cell else k
  | [] => rfl
  | (n, k) :: r => by
    have ih := lookup_relabel (env := env) (x := x) r
    rw [List.map_cons]
    show List.lookup x ((if (k == NameKind.free && env.scope.kind == .function && env.kindOf n == some .cell) = true then (n, NameKind.cell) else (n, k)) :: _) = _
    rw [show (if (k == NameKind.free && env.scope.kind == .function && env.kindOf n == some .cell) = true then (n, NameKind.cell) else (n, k)) = (n, if (k == NameKind.free && env.scope.kind == .function && env.kindOf n == some .cell) = true then NameKind.cell else k) from by split <;> rfl]
    by_cases e : x = n
    · subst e
      simp only [List.lookup_cons, beq_self_eq_true, Option.map_some]
    · have e' : (x == n) = false := by simpa using e
      simp only [List.lookup_cons, e']
      exact ih
theorem XOk.blk (ok : XOk P G C ad xr k sc X W) {s : PySem.Shared} {H : Hp} {scope : Scope} {cl : List (Str × Addr)} {Ca : Addr} {fp : List Addr} (hk : scope.kind = .function) : XOk P G C ad xr k scope (X.blk s H scope (PySem.compEnvC scope cl Ca X.env) fp) W0 :=
  ⟨ok.hN, ok.nd, ok.calm, ok.room, L2.takes_none5, ⟨fun x h => by
    show (PySem.relabel scope X.env).names.lookup x = _
    unfold PySem.relabel
    rw [lookup_relabel, h]; rfl, fun x h => ⟨by
    show (PySem.relabel scope X.env).names.lookup x = _
    unfold PySem.relabel
    rw [lookup_relabel, h]; rfl, by
    show (scope.names.lookup x == some .cell) = true
    rw [h]; rfl⟩, fun x h => by
    have e : (PySem.relabel scope X.env).names.lookup x = some (if (NameKind.free == NameKind.free && X.env.scope.kind == .function && X.env.kindOf x == some .cell) then NameKind.cell else NameKind.free) := by
      unfold PySem.relabel
      rw [lookup_relabel, h]; rfl
    show (PySem.relabel scope X.env).names.lookup x = _ ∨ (PySem.relabel scope X.env).names.lookup x = _
    rw [e]
    split
    · exact .inl rfl
    · exact .inr rfl, fun x h => by
    show (PySem.relabel scope X.env).names.lookup x = _
    unfold PySem.relabel
    rw [lookup_relabel, h]; rfl⟩, hk, ok.fns, ok.cons, ok.blt, fun j x h => by
    obtain ⟨d, u, h1, h2, h3⟩ := ok.dics j x h
    exact ⟨d, u, h1, h2, ⟨h3.at_⟩⟩⟩
theorem glb_ok {x : Str} (ok : XOk P G C ad xr k sc X W) (h : glb sc x = true) : Gl X x ∧ (x == ("__debug__" : Str)) = false := by
  unfold glb at h
  rw [Bool.and_eq_true, Bool.not_eq_true'] at h
  refine ⟨?_, h.2⟩
  have h1 := h.1
  split at h1
  · rename_i e; exact ok.scs.glob x e
  · cases h1
theorem vis_ok (ok : XOk P G C ad xr k sc X W) (h : vis P.N sc i x = true) : PE X (.Name x pos) (L2.tVar i) := by
  unfold vis at h
  simp only [Bool.and_eq_true, decide_eq_true_eq, Bool.not_eq_true'] at h
  obtain ⟨⟨⟨h1, h2⟩, h3⟩, h4⟩ := h
  refine vis_pe (by rw [ok.hN]; exact h1) ?_ h3 h4
  split at h2
  · rename_i e; exact .inl (ok.scs.loc x e)
  · rename_i e; exact .inr (.inl (ok.scs.cell x e).1)
  · rename_i e; exact .inr (ok.scs.free x e)
  · cases h2
theorem con_ok {t : T} {c : PySem.Const} {j : Nat} (h : conC t c = true) : PE X (.Constant c j pos) (eR X.K ad xr W (ev G C (.con t))) := by
  unfold conC at h
  split at h
  · exact s_con L2.pe_non fun H => by rw [Rep]; exact ⟨rfl, rfl⟩
  · have := beq_iff_eq.mp h; subst this; exact s_con L2.pe_bl fun H => by rw [Rep]; exact ⟨rfl, rfl⟩
  · have := of_decide_eq_true h; subst this; exact s_con L2.pe_int fun H => by rw [Rep]; exact ⟨rfl, rfl⟩
  · have := of_decide_eq_true h; subst this; exact s_con L2.pe_str fun H => by rw [Rep]; exact ⟨rfl, rfl⟩
  · cases h
def Sat (X : Cx) (ad : Nat → Addr) (xr : Nat → List T → Value → Option Addr → Hp → Prop) (W : WX) (G : Pg) (C : Nat → List T → CR) (c : E) : Vw → Prop
  | .e x => PE X x (eR X.K ad xr W (ev G C c))
  | .a x => PAg X ad xr W G C c x
  | .b op es => ∀ pos, PE X (.BoolOp op es pos) (eR X.K ad xr W (ev G C c))
  | .t x => PT X x (tR X.K ad xr W (ev G C c))
  | .tb op es => ∀ pos, PW X (.BoolOp op es pos) (tR X.K ad xr W (ev G C c))
  | .i x => ∀ tg, PI X tg x (iR X.K ad xr W fun s => srcE (ag c (ev G C c s) s))
  | .iz x => ∀ elts kk tpos, PI X (.Tuple elts kk tpos) x (iR X.K ad xr W fun s => srcE (ag c (ev G C c s) s))
theorem sat_src {c : E} {tg x : Expr} (h : Sat X ad xr W G C c (srcV c tg x)) : PI X tg x (iR X.K ad xr W fun s => srcE (ag c (ev G C c s) s)) := by
  unfold srcV at h
  split at h
  · rename_i hc
    rw [Bool.and_eq_true] at hc
    cases tg <;> (try (have := hc.2; cases this; done))
    exact h _ _ _
  · exact h tg
theorem sat_t {c : E} (x : Expr) (h : Sat X ad xr W G C c (normT x)) (hn : ∀ y, normT x ≠ .i y) : Sat X ad xr W G C c (.t x) := by
  cases x with
  | BoolOp op es p =>
    match es with
    | [] => exact absurd rfl (hn _)
    | [y] => exact absurd rfl (hn _)
    | y :: z :: r => exact (h p).pt
  | UnaryOp o y p =>
    cases o with
    | Not => exact h
    | _ => exact absurd rfl (hn _)
  | Compare l o r p => exact h
  | IfExp _ _ _ _ => exact absurd rfl (hn _)
  | _ => exact t_val h fun _ => rfl
theorem normT_call {x f : Expr} {as : List Expr} {ks : List PySem.Keyword} {p : PySem.Pos} (h : normT x = .i (.Call f as ks p)) : False := by
  cases x with
  | BoolOp op es q =>
    match es with
    | [] => cases h
    | [y] => cases h
    | y :: z :: r => cases h
  | UnaryOp o y q => cases o <;> cases h
  | _ => cases h
theorem norm_call {c : E} {v : Vw} {f : Expr} {as : List Expr} {ks : List PySem.Keyword} {p : PySem.Pos} (h : norm c v = .i (.Call f as ks p)) : v = .i (.Call f as ks p) := by
  cases v with
  | e x => cases h
  | a x => simp only [norm] at h; split at h <;> cases h
  | b op es =>
    match es with
    | [] => cases h
    | [y] => cases h
    | y :: z :: r => cases h
  | t x => exact (normT_call h).elim
  | tb op es =>
    match es with
    | [] => cases h
    | [y] => exact (normT_call h).elim
    | y :: z :: r => cases h
  | i x =>
    simp only [norm] at h
    split at h
    · exact h
    · split at h <;> cases h
  | iz x => cases h
/-- what stands behind a view's normal form -/
theorem sat_norm {c : E} (v : Vw) (hi : ∀ y, norm c v = .i y → ∃ x, v = .i x) (h : Sat X ad xr W G C c (norm c v)) : Sat X ad xr W G C c v := by
  cases v with
  | e x => exact h
  | a x =>
    simp only [norm] at h
    cases hb : c.asBrw with
    | none => rw [hb] at h; exact s_ag hb h
    | some i => rw [hb] at h; exact h
  | b op es =>
    match es with
    | [] => exact h
    | [y] => exact fun pos => s_one h
    | y :: z :: r => exact h
  | t x =>
    refine sat_t x h fun y e => ?_
    obtain ⟨z, hz⟩ := hi y e
    cases hz
  | tb op es =>
    match es with
    | [] => exact h
    | [y] =>
      refine fun pos => tw_one (sat_t y h fun z e => ?_)
      obtain ⟨w, hw⟩ := hi z e
      cases hw
    | y :: z :: r => exact h
  | i x =>
    simp only [norm] at h
    split at h
    · exact h
    · split at h
      · exact fun tg => i_src h
      · rename_i hb
        exact fun tg => i_src (s_ag (by simpa using hb) h)
  | iz x => exact h
end
end M
end

section
set_option Elab.async false
set_option autoImplicit false
set_option linter.all false
set_option maxRecDepth 100000
set_option maxHeartbeats 8000000
/-! SoundT: what the check of expressions gives. -/
namespace M
open PySem (Addr Str PyData Operator CmpOp UnaryOp Value Expr Stmt Scope NameKind ExceptHandler)
open L2 (V Hp HO SqT SqL Rd upd upd_same upd_ne St VK XK WX TE TT TA TG TGs TI TS It R2 OpR UnR CallR Dp DpAll rI0 rI Cx Room TruV PE PT PW PA PG PGs PI PTs PS PSs PMk Ends Inv Vis Loc Gl Takes Sp FnOk Binds)
section
variable {P : Stc} {G : Pg} {C : Nat → List T → CR} {ad : Nat → Addr} {xr : Nat → List T → Value → Option Addr → Hp → Prop} {k : Nat}
theorem folded_ok {e : Expr} (h : isSet e = false) (env : PySem.Env) (x : Value) : PySem.foldedSetIterable e env x = pure x := by
  cases e <;> first | rfl | cases h
theorem blk_ok {N : List Str} {sc scope : Scope} {X : Cx} {own : List (Str × Nat)} (s : ScOk sc X) (hN : X.N = N) (h : L2.blkC N sc scope own = true) : L2.BlkOk X.N X.env.scope scope own := by
  have b := L2.blkOk_by h
  rw [hN]
  exact ⟨b.kind, b.uniq, b.ix, fun y hy e => (b.free y hy e).elim (fun z => .inl (s.cell _ z).1) fun z => s.free _ z, b.own⟩
theorem blts_ok {sc : Scope} {X : Cx} {W : WX} (ok : XOk P G C ad xr k sc X W) {f : Str} (h : blts.contains f = true) : X.mg f = none := ok.blt f (by simpa using h)
/-- an int that changes nothing -/
theorem chkP_ok {sc : Scope} {X : Cx} {W : WX} (ok : XOk P G C ad xr k sc X W) : ∀ (c : E) (e : Expr), chkP P.N sc c e = true → PE X e (pR X.K ad G C c)
  | .var i, e, h => by
    cases e <;> simp only [chkP, Bool.false_eq_true] at h
    exact pr_var (vis_ok ok h)
  | .con t, e, h => by
    cases t <;> (try (simp [chkP] at h; done))
    cases e <;> (try (simp [chkP] at h; done))
    rename_i n c j p
    cases c <;> (try (simp [chkP] at h; done))
    rw [chkP, decide_eq_true_eq] at h
    subst h
    exact pr_con
  | .op1 o a, e, h => by
    cases o <;> (try (simp [chkP] at h; done))
    cases e <;> (try (simp [chkP] at h; done))
    rename_i u x p
    cases u <;> (try (simp [chkP] at h; done))
    simp only [chkP, Bool.and_eq_true, Option.isNone_iff_eq_none] at h
    exact pr_neg h.1.1 h.1.2 (chkP_ok ok a x h.2)
  | .op2 o a b, e, h => by
    cases o <;> (try (simp [chkP] at h; done))
    case add =>
      cases e <;> (try (simp [chkP] at h; done))
      rename_i x u y p
      cases u <;> (try (simp [chkP] at h; done))
      simp only [chkP, Bool.and_eq_true, Option.isNone_iff_eq_none] at h
      obtain ⟨⟨⟨⟨⟨h1, h2⟩, h3⟩, h4⟩, h5⟩, h6⟩ := h
      exact pr_two L2.op_add add_ints h1 h2 (chkP_ok ok a x h3) h4 h5 (chkP_ok ok b y h6)
    case sub =>
      cases e <;> (try (simp [chkP] at h; done))
      rename_i x u y p
      cases u <;> (try (simp [chkP] at h; done))
      simp only [chkP, Bool.and_eq_true, Option.isNone_iff_eq_none] at h
      obtain ⟨⟨⟨⟨⟨h1, h2⟩, h3⟩, h4⟩, h5⟩, h6⟩ := h
      exact pr_two L2.op_sub sub_ints h1 h2 (chkP_ok ok a x h3) h4 h5 (chkP_ok ok b y h6)
    case idx =>
      cases a <;> (try (simp [chkP] at h; done))
      cases e <;> (try (simp [chkP] at h; done))
      rename_i i x y p
      cases x <;> (try (simp [chkP] at h; done))
      simp only [chkP, Bool.and_eq_true, Option.isNone_iff_eq_none, Bool.not_eq_true'] at h
      obtain ⟨⟨⟨⟨h1, h2⟩, h3⟩, h4⟩, h5⟩ := h
      exact pr_idx h2 (vis_ok ok h1) h3 h4 (chkP_ok ok b y h5)
  | .brw _, _, h => by simp [chkP] at h
  | .mov _, _, h => by simp [chkP] at h
  | .gl _, _, h => by simp [chkP] at h
  | .op3 _ _ _ _, _, h => by simp [chkP] at h
  | .and _ _, _, h => by simp [chkP] at h
  | .or _ _, _, h => by simp [chkP] at h
  | .ite _ _ _, _, h => by simp [chkP] at h
  | .chain _ _ _ _ _, _, h => by simp [chkP] at h
  | .tup _, _, h => by simp [chkP] at h
  | .lst _, _, h => by simp [chkP] at h
  | .lc _ _ _ _ _, _, h => by simp [chkP] at h
  | .lc2 _ _ _ _ _ _ _ _, _, h => by simp [chkP] at h
  | .call _ _, _, h => by simp [chkP] at h
  | .pop _ _, _, h => by simp [chkP] at h
  | .dget _ _, _, h => by simp [chkP] at h
  | .fld _ _, _, h => by simp [chkP] at h
  | .isx _ _, _, h => by simp [chkP] at h
mutual
theorem chk_ok : ∀ (c : E) {sc : Scope} {X : Cx} {W : WX} (ok : XOk P G C ad xr k sc X W) (v : Vw), chk P sc c v = true → Sat X ad xr W G C c v
  | .var i, sc, X, W, ok, v, h => by
    rw [chk] at h
    split at h
    · rename_i x p e; exact sat_norm v (by rw [e]; intro y z; cases z) (by rw [e]; exact s_var (vis_ok ok h))
    · cases h
  | .mov i, sc, X, W, ok, v, h => by
    rw [chk] at h
    split at h
    · rename_i x p e; exact sat_norm v (by rw [e]; intro y z; cases z) (by rw [e]; exact s_mov (vis_ok ok h))
    · cases h
  | .brw i, sc, X, W, ok, v, h => by
    rw [chk] at h
    split at h
    · rename_i x p e; exact sat_norm v (by rw [e]; intro y z; cases z) (by rw [e]; exact s_brw (vis_ok ok h) _)
    · cases h
  | .con t, sc, X, W, ok, v, h => by
    rw [chk] at h
    split at h
    · rename_i x j p e; exact sat_norm v (by rw [e]; intro y z; cases z) (by rw [e]; exact con_ok h)
    · cases h
  | .gl j, sc, X, W, ok, v, h => by
    rw [chk] at h
    split at h
    · rename_i x p e
      simp only [Bool.and_eq_true, decide_eq_true_eq] at h
      obtain ⟨t, u, w, h1, h2, h3, h4⟩ := ok.cons j x h.1
      obtain ⟨g1, g2⟩ := glb_ok ok h.2
      exact sat_norm v (by rw [e]; intro y z; cases z) (by rw [e]; exact s_gl h1 (L2.pe_glob g1 h2 h3 g2) h4)
    · cases h
  | .op1 o a, sc, X, W, ok, v, h => by
    rw [chk] at h
    split at h
    · rename_i x p e
      simp only [Bool.and_eq_true, decide_eq_true_eq] at h
      obtain ⟨h1, h2⟩ := h; subst h1
      exact sat_norm v (by rw [e]; intro y z; cases z) (by rw [e]; exact p_neg (chk_ok a ok _ h2))
    · rename_i x p e
      simp only [Bool.and_eq_true, decide_eq_true_eq] at h
      obtain ⟨h1, h2⟩ := h; subst h1
      exact sat_norm v (by rw [e]; intro y z; cases z) (by rw [e]; exact p_inv (chk_ok a ok _ h2))
    · rename_i x p e
      simp only [Bool.and_eq_true, decide_eq_true_eq] at h
      obtain ⟨h1, h2⟩ := h; subst h1
      exact sat_norm v (by rw [e]; intro y z; cases z) (by rw [e]; exact p_not (chk_ok a ok _ h2))
    · rename_i x p e
      simp only [Bool.and_eq_true, decide_eq_true_eq, Option.isNone_iff_eq_none] at h
      obtain ⟨⟨h1, h3⟩, h2⟩ := h; subst h1
      exact sat_norm v (by rw [e]; intro y z; cases z) (by rw [e]; exact t_not h3 (chk_ok a ok _ h2))
    · rename_i x _ _ p e
      simp only [Bool.and_eq_true, decide_eq_true_eq] at h
      obtain ⟨h1, h2⟩ := h; subst h1
      exact sat_norm v (by rw [e]; intro y z; cases z) (by rw [e]; exact p_isN (chk_ok a ok _ h2))
    · rename_i x _ _ p e
      simp only [Bool.and_eq_true, decide_eq_true_eq] at h
      obtain ⟨h1, h2⟩ := h; subst h1
      exact sat_norm v (by rw [e]; intro y z; cases z) (by rw [e]; exact p_notN (chk_ok a ok _ h2))
    · rename_i x _ _ p e
      simp only [Bool.and_eq_true, decide_eq_true_eq] at h
      obtain ⟨h1, h2⟩ := h; subst h1
      exact sat_norm v (by rw [e]; intro y z; cases z) (by rw [e]; exact pt_isN (chk_ok a ok _ h2))
    · rename_i x _ _ p e
      simp only [Bool.and_eq_true, decide_eq_true_eq] at h
      obtain ⟨h1, h2⟩ := h; subst h1
      exact sat_norm v (by rw [e]; intro y z; cases z) (by rw [e]; exact pt_notN (chk_ok a ok _ h2))
    · rename_i f _ x p e
      split at h
      · rename_i n fv hn
        simp only [Bool.and_eq_true, decide_eq_true_eq, Bool.not_eq_true'] at h
        obtain ⟨⟨⟨⟨h1, h2⟩, h3⟩, h4⟩, h5⟩ := h
        subst h1
        exact sat_norm v (by rw [e]; intro y z; cases z) (by rw [e]; exact p_call1 ok.calm h4 hn (glb_ok ok h3).1 (blts_ok ok h2) (chk_ok a ok _ h5))
      · split at h
        · rename_i g _ y _ _
          simp only [Bool.and_eq_true, decide_eq_true_eq, Bool.not_eq_true'] at h
          obtain ⟨⟨⟨⟨⟨h1, h2⟩, h3⟩, h4⟩, h5⟩, h6⟩ := h
          subst h1 h2
          exact sat_norm v (by rw [e]; intro y z; cases z) (by rw [e]; exact p_lrg ok.calm h5 (glb_ok ok h3).1 (ok.blt _ (by simp [blts])) (glb_ok ok h4).1 (ok.blt _ (by simp [blts])) (chk_ok a ok _ h6))
        · rename_i g _ y _ _
          simp only [Bool.and_eq_true, decide_eq_true_eq, Bool.not_eq_true'] at h
          obtain ⟨⟨⟨⟨⟨h1, h2⟩, h3⟩, h4⟩, h5⟩, h6⟩ := h
          subst h1 h2
          exact sat_norm v (by rw [e]; intro y z; cases z) (by rw [e]; exact p_trg ok.calm h5 (glb_ok ok h3).1 (ok.blt _ (by simp [blts])) (glb_ok ok h4).1 (ok.blt _ (by simp [blts])) (chk_ok a ok _ h6))
        · rename_i g _ y _ _
          simp only [Bool.and_eq_true, decide_eq_true_eq, Bool.not_eq_true'] at h
          obtain ⟨⟨⟨⟨⟨h1, h2⟩, h3⟩, h4⟩, h5⟩, h6⟩ := h
          subst h1 h2
          exact sat_norm v (by rw [e]; intro y z; cases z) (by rw [e]; exact p_lenSet ok.calm h5 (glb_ok ok h3).1 (ok.blt _ (by simp [blts])) (glb_ok ok h4).1 (ok.blt _ (by simp [blts])) (chk_ok a ok _ h6))
        · simp only [Bool.and_eq_true, decide_eq_true_eq, Bool.not_eq_true'] at h
          obtain ⟨⟨⟨h2, h3⟩, h4⟩, h5⟩ := h
          subst h2
          exact sat_norm v (by rw [e]; intro y z; cases z) (by rw [e]; exact p_sorted ok.room h4 (glb_ok ok h3).1 (ok.blt _ (by simp [blts])) (chk_ok a ok _ h5))
        · cases h
    · rename_i x n p2 sep _ _ p3 e
      simp only [Bool.and_eq_true, decide_eq_true_eq, Bool.not_eq_true'] at h
      obtain ⟨⟨⟨⟨h1, h2⟩, h3⟩, h4⟩, h5⟩ := h
      subst h1 h2
      exact sat_norm v (by rw [e]; intro y z; cases z) (by rw [e]; exact p_split (fun f as ks p ee => by subst ee; cases h3) h4 (chk_ok a ok _ h5))
    · rename_i f _ x y _ p e
      split at h
      · rename_i kk
        simp only [Bool.and_eq_true, decide_eq_true_eq, Bool.not_eq_true'] at h
        obtain ⟨⟨⟨⟨⟨⟨h1, h2⟩, h3⟩, h4⟩, h5⟩, h6⟩, h7⟩ := h
        subst h1
        exact sat_norm v (by rw [e]; intro y z; cases z) (by rw [e]; exact p_isK h6 (glb_ok ok h4).1 (ok.blt _ (by simp [blts])) h2 (glb_ok ok h5).1 (blts_ok ok h3) (chk_ok a ok _ h7))
      · cases h
    · rename_i x _ _ _ _ _ e
      simp only [Bool.and_eq_true, decide_eq_true_eq] at h
      obtain ⟨h1, h2⟩ := h; subst h1
      exact sat_norm v (by rw [e]; intro y z; cases z) (by rw [e]; exact p_rev (chk_ok a ok _ h2))
    · rename_i f _ x p e
      simp only [Bool.and_eq_true, decide_eq_true_eq, Bool.not_eq_true', Option.isNone_iff_eq_none] at h
      obtain ⟨⟨⟨⟨⟨h1, h2⟩, h3⟩, h4⟩, h5⟩, h6⟩ := h
      subst h1 h2
      have ev := norm_call e
      subst ev
      exact fun tg => i_rng1 h4 (glb_ok ok h3).1 (ok.blt _ (by simp [blts])) (chk_ok a ok _ h6) h5
    · cases h
  | .op2 o a b, sc, X, W, ok, v, h => by
    rw [chk] at h
    split at h
    · rename_i x op y p e
      simp only [Bool.and_eq_true, decide_eq_true_eq] at h
      obtain ⟨⟨h1, h2⟩, h3⟩ := h
      exact sat_norm v (by rw [e]; intro y z; cases z) (by rw [e]; exact p_bin h1 (chk_ok a ok _ h2) (chk_ok b ok _ h3))
    · rename_i x op y p e
      simp only [Bool.and_eq_true, decide_eq_true_eq, Bool.not_eq_true'] at h
      obtain ⟨⟨⟨h1, h4⟩, h2⟩, h3⟩ := h
      exact sat_norm v (by rw [e]; intro y z; cases z) (by rw [e]; exact p_cmp ok.room h1 h4 (chk_ok a ok _ h2) (chk_ok b ok _ h3))
    · rename_i x op y p e
      simp only [Bool.and_eq_true, decide_eq_true_eq, Bool.not_eq_true'] at h
      obtain ⟨⟨⟨h1, h4⟩, h2⟩, h3⟩ := h
      exact sat_norm v (by rw [e]; intro y z; cases z) (by rw [e]; exact pt_cmp ok.room h1 h4 (chk_ok a ok _ h2) (chk_ok b ok _ h3))
    · rename_i x y _ p e
      simp only [Bool.and_eq_true, decide_eq_true_eq] at h
      obtain ⟨⟨h1, h2⟩, h3⟩ := h; subst h1
      exact sat_norm v (by rw [e]; intro y z; cases z) (by rw [e]; exact p_from (chk_ok a ok _ h2) (chk_ok b ok _ h3))
    · rename_i x y _ p e
      simp only [Bool.and_eq_true, decide_eq_true_eq] at h
      obtain ⟨⟨h1, h2⟩, h3⟩ := h; subst h1
      exact sat_norm v (by rw [e]; intro y z; cases z) (by rw [e]; exact p_upto (chk_ok a ok _ h2) (chk_ok b ok _ h3))
    · rename_i x y p _ _ e
      simp only [Bool.and_eq_true, decide_eq_true_eq, Bool.not_eq_true'] at h
      obtain ⟨⟨⟨h1, h4⟩, h2⟩, h3⟩ := h; subst h1
      exact sat_norm v (by rw [e]; intro y z; cases z) (by rw [e]; exact p_idx h4 (chk_ok a ok _ h2) (chk_ok b ok _ h3))
    · rename_i f _ x y p e
      simp only [Bool.and_eq_true, decide_eq_true_eq, Bool.not_eq_true', Option.isNone_iff_eq_none] at h
      obtain ⟨⟨⟨⟨⟨⟨⟨⟨h1, h2⟩, h3⟩, h4⟩, h5⟩, h6⟩, h7⟩, h8⟩, h9⟩ := h
      subst h1 h2
      exact sat_norm v (by rw [e]; intro y z; cases z) (by rw [e]; exact fun elts kk tpos => i_zip h4 h5 (glb_ok ok h3).1 (ok.blt _ (by simp [blts])) (chk_ok a ok _ h8) (chk_ok b ok _ h9) h6 h7)
    · rename_i f _ x y _ p e
      simp only [Bool.and_eq_true, decide_eq_true_eq, Bool.not_eq_true'] at h
      obtain ⟨⟨⟨⟨⟨h1, h2⟩, h3⟩, h4⟩, h5⟩, h6⟩ := h
      subst h1 h2
      exact sat_norm v (by rw [e]; intro y z; cases z) (by rw [e]; exact p_lenAt h4 (glb_ok ok h3).1 (ok.blt _ (by simp [blts])) ok.calm (chk_ok a ok _ h5) (chk_ok b ok _ h6))
    · cases h
  | .op3 o a b c, sc, X, W, ok, v, h => by
    rw [chk] at h
    split at h
    · rename_i x y z _ p e
      simp only [Bool.and_eq_true, decide_eq_true_eq] at h
      obtain ⟨⟨⟨h1, h2⟩, h3⟩, h4⟩ := h; subst h1
      exact sat_norm v (by rw [e]; intro y z; cases z) (by rw [e]; exact p_cut (chk_ok a ok _ h2) (chk_ok b ok _ h3) (chk_ok c ok _ h4))
    · rename_i x y _ z p _ e
      simp only [Bool.and_eq_true, decide_eq_true_eq, Bool.not_eq_true', Option.isNone_iff_eq_none] at h
      obtain ⟨⟨⟨⟨⟨⟨⟨h1, h2⟩, h3⟩, h4⟩, h5⟩, h6⟩, h7⟩, h8⟩ := h; subst h1
      exact sat_norm v (by rw [e]; intro y z; cases z) (by rw [e]; exact p_idx2 h2 h3 h4 h5 (chk_ok a ok _ h6) (chk_ok b ok _ h7) (chkP_ok ok c z h8))
    · cases h
  | .and a b, sc, X, W, ok, v, h => by
    rw [chk] at h
    split at h
    · rename_i x y r p e
      simp only [Bool.and_eq_true] at h
      exact sat_norm v (by rw [e]; intro y z; cases z) (by rw [e]; exact s_and (chk_ok a ok _ h.1) (chk_ok b ok _ h.2 _))
    · rename_i x y r e
      simp only [Bool.and_eq_true] at h
      exact sat_norm v (by rw [e]; intro y z; cases z) (by rw [e]; exact fun pos => s_and (chk_ok a ok _ h.1) (chk_ok b ok _ h.2 _))
    · rename_i x y r e
      simp only [Bool.and_eq_true] at h
      exact sat_norm v (by rw [e]; intro y z; cases z) (by rw [e]; exact fun pos => tw_and (chk_ok a ok _ h.1) (chk_ok b ok _ h.2 _))
    · cases h
  | .or a b, sc, X, W, ok, v, h => by
    rw [chk] at h
    split at h
    · rename_i x y r p e
      simp only [Bool.and_eq_true] at h
      exact sat_norm v (by rw [e]; intro y z; cases z) (by rw [e]; exact s_or (chk_ok a ok _ h.1) (chk_ok b ok _ h.2 _))
    · rename_i x y r e
      simp only [Bool.and_eq_true] at h
      exact sat_norm v (by rw [e]; intro y z; cases z) (by rw [e]; exact fun pos => s_or (chk_ok a ok _ h.1) (chk_ok b ok _ h.2 _))
    · rename_i x y r e
      simp only [Bool.and_eq_true] at h
      exact sat_norm v (by rw [e]; intro y z; cases z) (by rw [e]; exact fun pos => tw_or (chk_ok a ok _ h.1) (chk_ok b ok _ h.2 _))
    · cases h
  | .ite c a b, sc, X, W, ok, v, h => by
    rw [chk] at h
    split at h
    · rename_i x y r p e
      simp only [Bool.and_eq_true] at h
      exact sat_norm v (by rw [e]; intro y z; cases z) (by rw [e]; exact s_ite (chk_ok c ok _ h.1.1) (chk_ok a ok _ h.1.2) (chk_ok b ok _ h.2))
    · cases h
  | .chain o o' a b c, sc, X, W, ok, v, h => by
    rw [chk] at h
    split at h
    · rename_i x op op' y z p e
      simp only [Bool.and_eq_true, decide_eq_true_eq, Bool.not_eq_true'] at h
      obtain ⟨⟨⟨⟨⟨h1, h2⟩, h3⟩, h4⟩, h5⟩, h6⟩ := h
      exact sat_norm v (by rw [e]; intro y z; cases z) (by rw [e]; exact p_chain ok.room h1 h2 h3 (chk_ok a ok _ h4) (chk_ok b ok _ h5) (chk_ok c ok _ h6))
    · rename_i x op op' y z p e
      simp only [Bool.and_eq_true, decide_eq_true_eq, Bool.not_eq_true'] at h
      obtain ⟨⟨⟨⟨⟨h1, h2⟩, h3⟩, h4⟩, h5⟩, h6⟩ := h
      exact sat_norm v (by rw [e]; intro y z; cases z) (by rw [e]; exact pt_chain ok.room h1 h2 h3 (chk_ok a ok _ h4) (chk_ok b ok _ h5) (chk_ok c ok _ h6))
    · cases h
  | .tup es, sc, X, W, ok, v, h => by
    rw [chk] at h
    split at h
    · rename_i xs j p e
      exact sat_norm v (by rw [e]; intro y z; cases z) (by rw [e]; exact s_tup (chkL_ok es ok _ h))
    · cases h
  | .lst es, sc, X, W, ok, v, h => by
    rw [chk] at h
    split at h
    · rename_i xs p e
      exact sat_norm v (by rw [e]; intro y z; cases z) (by rw [e]; exact s_lst (chkL_ok es ok _ h))
    · cases h
  | .lc t it cs elt own, sc, X, W, ok, v, h => by
    rw [chk] at h
    split at h
    · rename_i x tg ix ifs s2 p e
      simp only [Bool.and_eq_true, decide_eq_true_eq, Bool.not_eq_true'] at h
      obtain ⟨⟨⟨⟨⟨⟨⟨⟨h1, h2⟩, h3⟩, h4⟩, h5⟩, h6⟩, h7⟩, h8⟩, h9⟩ := h
      refine sat_norm v (by rw [e]; intro y z; cases z) (by
        rw [e]
        have bo := blk_ok ok.scs ok.hN h3
        have hk := bo.kind
        have hsl : ∀ i ∈ t.slots, i ∈ own := fun i hi => by simpa using List.all_eq_true.mp h6 i hi
        have hg : ∀ (s : PySem.Shared) (H : Hp) (Cc : Addr) (cl : List (Str × Addr)) (fp : List Addr), PG (X.blk s H s2 (PySem.compEnvC s2 cl Cc X.env) fp) tg (gTg X.K t) := fun s H Cc cl fp => g_ok (X := X.blk s H s2 (PySem.compEnvC s2 cl Cc X.env) fp) ok.calm ok.nd (ok.blk hk).scs (by rw [ok.hN]; exact h5)
        have ht : ∀ (s : PySem.Shared) (H : Hp) (Cc : Addr) (cl : List (Str × Addr)) (fp : List Addr), PTs (X.blk s H s2 (PySem.compEnvC s2 cl Cc X.env) fp) ifs (ttR X.K ad xr G C cs) := fun s H Cc cl fp => chkT_ok cs (ok.blk hk) _ h8 h7
        have he : ∀ (s : PySem.Shared) (H : Hp) (Cc : Addr) (cl : List (Str × Addr)) (fp : List Addr), PE (X.blk s H s2 (PySem.compEnvC s2 cl Cc X.env) fp) x (eR X.K ad xr W0 (ev G C elt)) := fun s H Cc cl fp => chk_ok elt (ok.blk hk) _ h9
        refine PE.impL (L2.pe_lc ok.calm ok.nd (sat_src (chk_ok it ok _ h1)) bo hg ht he (folded_ok h2 _)) fun σ H Q hl q => ?_
        rw [h4]
        exact i_lc h7 hsl (fun i hi => by rw [hl, ok.hN]; exact chkTg_slots h5 i hi) q)
    · cases h
  | .lc2 t it t1 it1 cs elt own own1, sc, X, W, ok, v, h => by
    rw [chk] at h
    split at h
    · rename_i x tg ix tg1 ix1 ifs s2 p e
      simp only [Bool.and_eq_true, decide_eq_true_eq, Bool.not_eq_true'] at h
      obtain ⟨⟨⟨⟨⟨⟨⟨⟨⟨⟨⟨⟨⟨h1, h2⟩, h3⟩, h4⟩, h5⟩, h6⟩, k1⟩, k2⟩, k3⟩, k4⟩, k5⟩, h7⟩, h8⟩, h9⟩ := h
      refine sat_norm v (by rw [e]; intro y z; cases z) (by
        rw [e]
        have bo := blk_ok ok.scs ok.hN h3
        have hk := bo.kind
        have hsl : ∀ i ∈ t.slots, i ∈ own := fun i hi => by simpa using List.all_eq_true.mp h6 i hi
        have hsl1 : ∀ i ∈ t1.slots, i ∈ own1 := fun i hi => by simpa using List.all_eq_true.mp k4 i hi
        have hsub : ∀ i ∈ own1, i ∈ own := fun i hi => by simpa using List.all_eq_true.mp k5 i hi
        have hg : ∀ (s : PySem.Shared) (H : Hp) (Cc : Addr) (cl : List (Str × Addr)) (fp : List Addr), PG (X.blk s H s2 (PySem.compEnvC s2 cl Cc X.env) fp) tg (gTg X.K t) := fun s H Cc cl fp => g_ok (X := X.blk s H s2 (PySem.compEnvC s2 cl Cc X.env) fp) ok.calm ok.nd (ok.blk hk).scs (by rw [ok.hN]; exact h5)
        have hg1 : ∀ (s : PySem.Shared) (H : Hp) (Cc : Addr) (cl : List (Str × Addr)) (fp : List Addr), PG (X.blk s H s2 (PySem.compEnvC s2 cl Cc X.env) fp) tg1 (gTg X.K t1) := fun s H Cc cl fp => g_ok (X := X.blk s H s2 (PySem.compEnvC s2 cl Cc X.env) fp) ok.calm ok.nd (ok.blk hk).scs (by rw [ok.hN]; exact k3)
        have hi1 : ∀ (s : PySem.Shared) (H : Hp) (Cc : Addr) (cl : List (Str × Addr)) (fp : List Addr), PI (X.blk s H s2 (PySem.compEnvC s2 cl Cc X.env) fp) tg1 ix1 (iR X.K ad xr W0 fun s => srcE (ag it1 (ev G C it1 s) s)) := fun s H Cc cl fp => sat_src (chk_ok it1 (ok.blk hk) _ k1)
        have ht0 : ∀ (s : PySem.Shared) (H : Hp) (Cc : Addr) (cl : List (Str × Addr)) (fp : List Addr), PTs (X.blk s H s2 (PySem.compEnvC s2 cl Cc X.env) fp) [] (ttR X.K ad xr G C []) := fun s H Cc cl fp => L2.pts_nil
        have ht : ∀ (s : PySem.Shared) (H : Hp) (Cc : Addr) (cl : List (Str × Addr)) (fp : List Addr), PTs (X.blk s H s2 (PySem.compEnvC s2 cl Cc X.env) fp) ifs (ttR X.K ad xr G C cs) := fun s H Cc cl fp => chkT_ok cs (ok.blk hk) _ h8 h7
        have he : ∀ (s : PySem.Shared) (H : Hp) (Cc : Addr) (cl : List (Str × Addr)) (fp : List Addr), PE (X.blk s H s2 (PySem.compEnvC s2 cl Cc X.env) fp) x (eR X.K ad xr W0 (ev G C elt)) := fun s H Cc cl fp => chk_ok elt (ok.blk hk) _ h9
        refine PE.impL (L2.pe_lc2 (vs1 := own1) ok.calm ok.nd (sat_src (chk_ok it ok _ h1)) bo (by rw [h4]; exact hsub) hg ht0 hi1 hg1 ht he (folded_ok h2 _) (folded_ok k2)) fun σ H Q hl q => ?_
        rw [h4]
        exact i_lc2 h7 hsl (fun i hi => by rw [hl, ok.hN]; exact chkTg_slots h5 i hi) hsl1 (fun i hi => by rw [hl, ok.hN]; exact chkTg_slots k3 i hi) hsub q)
    · cases h
  | .call f es, sc, X, W, ok, v, h => by
    rw [chk] at h
    split at h
    · rename_i x _ xs p e
      simp only [Bool.and_eq_true, decide_eq_true_eq] at h
      obtain ⟨⟨h1, h2⟩, h3⟩ := h
      obtain ⟨m1, m2, fd, ps, F, m3, m4, m5⟩ := ok.fns f x h1
      obtain ⟨q1, q2, q3⟩ := chkG_ok es ok _ h3
      obtain ⟨g1, g2⟩ := glb_ok ok h2
      exact sat_norm v (by rw [e]; intro y z; cases z) (by rw [e]; exact s_call m3 m4 ok.room g1 m1 m2 m5 g2 ok.tk q1 q2 q3)
    · cases h
  | .pop i ix, sc, X, W, ok, v, h => by
    cases ix with
    | nil =>
      rw [chk] at h
      split at h
      · rename_i x _ n q q' e
        simp only [Bool.and_eq_true, decide_eq_true_eq] at h
        obtain ⟨⟨h1, h2⟩, h3⟩ := h
        subst h1
        exact sat_norm v (by rw [e]; intro y z; cases z) (by rw [e]; exact p_pop0 (vis_ok ok h2) h3)
      · cases h
    | cons c ix =>
      cases ix with
      | nil =>
        rw [chk] at h
        split at h
        · rename_i x _ n q y q' e
          simp only [Bool.and_eq_true, decide_eq_true_eq, Bool.not_eq_true'] at h
          obtain ⟨⟨⟨⟨h1, h2⟩, h3⟩, h4⟩, h5⟩ := h
          subst h1
          exact sat_norm v (by rw [e]; intro y z; cases z) (by rw [e]; exact p_popAt (vis_ok ok h2) h3 h4 (chk_ok c ok _ h5))
        · cases h
      | cons _ _ => simp [chk] at h
  | .dget j a, sc, X, W, ok, v, h => by
    rw [chk] at h
    split at h
    · rename_i x _ y p e
      simp only [Bool.and_eq_true, decide_eq_true_eq, Bool.not_eq_true'] at h
      obtain ⟨⟨⟨h1, h2⟩, h3⟩, h4⟩ := h
      obtain ⟨d, u, m1, m2, m3⟩ := ok.dics j x h1
      obtain ⟨g1, g2⟩ := glb_ok ok h2
      exact sat_norm v (by rw [e]; intro y z; cases z) (by rw [e]; exact p_dget m1 m3 g1 g2 m2 h3 (chk_ok a ok _ h4))
    · cases h
  | .fld i j, sc, X, W, ok, v, h => by simp [chk] at h
  | .isx i j, sc, X, W, ok, v, h => by simp [chk] at h
theorem chkL_ok : ∀ (cs : List E) {sc : Scope} {X : Cx} {W : WX} (ok : XOk P G C ad xr k sc X W) (xs : List Expr), chkL P sc cs xs = true → PA X xs (lR X.K ad xr W (evs G C cs))
  | [], sc, X, W, ok, [], h => a_nil
  | [], sc, X, W, ok, _ :: _, h => by simp [chkL] at h
  | _ :: _, sc, X, W, ok, [], h => by simp [chkL] at h
  | c :: cs, sc, X, W, ok, x :: xs, h => by
    rw [chkL, Bool.and_eq_true, Bool.and_eq_true, Bool.not_eq_true'] at h
    exact a_cons h.1.1 (chk_ok c ok _ h.1.2) (chkL_ok cs ok xs h.2)
theorem chkG_ok : ∀ (cs : List E) {sc : Scope} {X : Cx} {W : WX} (ok : XOk P G C ad xr k sc X W) (xs : List Expr), chkG P sc cs xs = true → PA X xs (asR X.K ad xr W (evas G C cs)) ∧ (xs.all fun e => !isStar e) = true ∧ xs.length = cs.length
  | [], sc, X, W, ok, [], h => ⟨g_nil, rfl, rfl⟩
  | [], sc, X, W, ok, _ :: _, h => by simp [chkG] at h
  | _ :: _, sc, X, W, ok, [], h => by simp [chkG] at h
  | c :: cs, sc, X, W, ok, x :: xs, h => by
    rw [chkG, Bool.and_eq_true, Bool.and_eq_true, Bool.not_eq_true'] at h
    obtain ⟨q1, q2, q3⟩ := chkG_ok cs ok xs h.2
    exact ⟨g_cons h.1.1 (chk_ok c ok _ h.1.2) q1, by rw [List.all_cons, h.1.1, q2]; rfl, by rw [List.length_cons, List.length_cons, q3]⟩
theorem chkT_ok : ∀ (cs : List E) {sc : Scope} {X : Cx} (ok : XOk P G C ad xr k sc X W0) (xs : List Expr), chkT P sc cs xs = true → cs.length ≤ 1 → PTs X xs (ttR X.K ad xr G C cs)
  | [], sc, X, ok, [], h, _ => L2.pts_nil
  | [], sc, X, ok, _ :: _, h, _ => by simp [chkT] at h
  | _ :: _, sc, X, ok, [], h, _ => by simp [chkT] at h
  | [c], sc, X, ok, [x], h, _ => by
    rw [chkT, Bool.and_eq_true] at h
    exact L2.pts_one (chk_ok c ok _ h.1)
  | [c], sc, X, ok, x :: y :: xs, h, _ => by
    simp [chkT] at h
  | c :: d :: cs, sc, X, ok, _, h, hl => by simp at hl
end
end
end M
end

section
set_option Elab.async false
set_option autoImplicit false
set_option linter.all false
set_option maxRecDepth 100000
set_option maxHeartbeats 8000000
/-! SoundU: the check of statements. -/
namespace M
open PySem (Addr Str PyData Operator CmpOp UnaryOp Value Expr Stmt Scope NameKind ExceptHandler)
open L2 (V Hp HO SqT SqL Rd upd upd_same upd_ne St VK XK WX TE TT TA TG TGs TI TS It R2 OpR UnR CallR Dp DpAll rI0 rI Cx Room TruV PE PT PW PA PG PGs PI PTs PS PSs PMk Ends Inv Vis Loc Gl Takes Sp FnOk Binds)
/-- the stores of a, b = x, y -/
def swS (sc : Scope) (ts vs : List Expr) : Option (Option (List Str)) :=
  if !(ts.length == 2 || ts.length == 3) || vs.length != ts.length then some none else
  if vs.any isStar then some none else
  let line := (ts.head?.map (·.pos.line)).getD 0
  let names := ts.filterMap fun
    | .Name id pos => if sc.names.lookup id == some .local && pos.line == line then some id else none
    | _ => none
  if names.length != ts.length || names.eraseDups.length != names.length then some none else
  if vs.all (PySem.foldedForSure 8) then some none else
  if vs.all (PySem.constantsAlone 8) then none else some (some names)
theorem swS_ok {env : PySem.Env} {sc : Scope} (hs : env.scope = sc) (hk : sc.kind = .function) {ts vs : List Expr} {k k2 : Nat} {p p2 : PySem.Pos} {r : Option (List Str)} (h : swS sc ts vs = some r) : PySem.swappedStores [.Tuple ts k p] (.Tuple vs k2 p2) env = pure r := by
  have hb : env.blockKind = .function := by unfold PySem.Env.blockKind; rw [hs, hk]; rfl
  have hst : (vs.any fun | .Starred .. => true | _ => false) = vs.any isStar := by
    congr 1
  unfold swS at h
  unfold PySem.swappedStores
  simp only [hb, bne_self_eq_false, Bool.or_false]
  split at h
  · rename_i c; cases h; exact if_pos c
  · rename_i c
    refine (if_neg c).trans ?_
    split at h
    · rename_i c2; cases h
      rw [← hst] at c2
      exact if_pos c2
    · rename_i c2
      rw [← hst] at c2
      refine (if_neg c2).trans ?_
      subst hs
      simp only [PySem.Env.kindOf]
      dsimp only at h
      generalize hn : List.filterMap _ ts = ns at h
      by_cases c3 : (ns.length != ts.length || ns.eraseDups.length != ns.length) = true
      · rw [if_pos c3] at h; cases h; subst hn; exact if_pos c3
      · rw [if_neg c3] at h
        subst hn
        refine (if_neg c3).trans ?_
        split at h
        · rename_i c4; cases h; exact if_pos c4
        · rename_i c4
          refine (if_neg c4).trans ?_
          split at h
          · cases h
          · rename_i c5
            cases h
            exact if_neg c5
def isComp : Expr → Bool
  | .ListComp _ _ _ _ => true
  | .SetComp _ _ _ _ => true
  | .DictComp _ _ _ _ _ => true
  | _ => false
theorem sw_none {v : Expr} {t : Option Expr} {l : Nat} {env : PySem.Env} (h : isComp v = false) : PySem.swapsWith v t l env = pure false := by
  cases v <;> first | rfl | cases h
theorem sw_sole {v : Expr} {t : Expr} {l : Nat} {env : PySem.Env} (h : isComp v = false) : PySem.swapsWithSole [t] v l env = pure false := sw_none h
/-- name = [..]: stored within the comprehension -/
def swB (sc : Scope) (x : Str) (p' : PySem.Pos) : Expr → Bool
  | .ListComp _ _ s2 pos => (sc.names.lookup x == some .local) && p'.line == pos.line && !(s2.names.any fun (n, k) => n == x && (k == .local || k == .cell))
  | _ => false
theorem swB_ok {env : PySem.Env} {sc : Scope} (hs : env.scope = sc) (hk : sc.kind = .function) {v : Expr} (hv : isComp v = false ∨ ∃ a b c d, v = .ListComp a b c d) {x : Str} {p' : PySem.Pos} {l : Nat} : PySem.swapsWith v (some (.Name x p')) l env = pure (swB sc x p' v) := by
  rcases hv with hv | ⟨a, b, c, d, rfl⟩
  · rw [sw_none hv]; cases v <;> first | rfl | cases hv
  · have hb : env.blockKind = .function := by unfold PySem.Env.blockKind; rw [hs, hk]; rfl
    subst hs
    unfold PySem.swapsWith swB
    simp only [hb, beq_self_eq_true, Bool.true_and]
    rfl

/-! ### the check -/
structure Stx extends Stc where
  cnm : List Str
def sto (N : List Str) (sc : Scope) (A : List Nat) (i : Nat) (x : Str) : Bool := A.contains i && decide (N[i]? = some x) && (decide (sc.names.lookup x = some .local) || decide (sc.names.lookup x = some .cell))
/-- a, b, .. : names and slots -/
def stoL (N : List Str) (sc : Scope) (A : List Nat) : List Nat → List Expr → Bool
  | [], [] => true
  | i :: is, .Name x _ :: es => sto N sc A i x && stoL N sc A is es
  | _, _ => false
def isTup : Expr → Bool
  | .Tuple _ _ _ => true
  | _ => false
def lcForm : Expr → Bool
  | .ListComp _ _ _ _ => true
  | v => !isComp v
def chkU : List S → List Stmt → Bool
  | [.ret (.con t)], [.Return (some (.Constant k _ _)) _] => conC t k
  | [.ret (.con .non)], [.Return none _] => true
  | _, _ => false
def chkH (cnm : List Str) (sc : Scope) : List (Nat × Option Nat × List S) → List ExceptHandler → Bool
  | [], [] => true
  | (c, none, b) :: hs, .ExceptHandler (some (.Name x _)) none (s :: ss) _ :: es => decide (cnm[c]? = some x) && glb sc x && chkU b (s :: ss) && chkH cnm sc hs es
  | _, _ => false
mutual
def chkS (P : Stx) (A : List Nat) (sc : Scope) : S → Stmt → Bool
  | .pass, .Pass _ => true
  | .pass, .Expr (.Constant (.str _) _ _) _ => true
  | .set i e, .Assign [.Name x _] v _ => sto P.N sc A i x && lcForm v && chk P.toStc sc e (.e v)
  | .own i e, .Assign [.Name x _] v _ => sto P.N sc A i x && lcForm v && chk P.toStc sc e (.e v)
  | .par is cs, .Assign [.Tuple ts _ _] (.Tuple vs _ _) _ => stoL P.N sc A (is.map (·.1)) ts && decide (is.length = ts.length) && decide (is.length ≤ 16) && decide (is.map (·.1)).Nodup && chkL P.toStc sc cs vs && (match swS sc ts vs with
    | none => false
    | some none => true
    | some (some ns) => decide (ns = (is.map (·.1)).filterMap fun i => P.N[i]?) && (is.length == 2 || is.length == 3) && (ts.all fun | .Name x _ => decide (sc.names.lookup x = some .local) | _ => false))
  | .unp is e, .Assign [.Tuple ts _ _] v _ => stoL P.N sc A is ts && decide (is.length = ts.length) && !isTup v && !isComp v && chk P.toStc sc e (.e v)
  | .aug i o e, .AugAssign (.Name x _) op v _ => sto P.N sc A i x && decide (iop op = some o) && chk P.toStc sc e (.e v)
  | .stI i [] ck ce, .Assign [.Subscript (.Name x _) kx _] v _ => vis P.N sc i x && !isSlice kx && !isComp v && chk P.toStc sc ck (.e kx) && chk P.toStc sc ce (.e v)
  | .stI i [cp] ck ce, .Assign [.Subscript (.Subscript (.Name x _) px _) kx _] v _ => vis P.N sc i x && !isSlice px && !isSlice kx && pureC cp && pureC ck && chkP P.N sc cp px && chkP P.N sc ck kx && !isComp v && chk P.toStc sc ce (.e v)
  | .app i e, .Expr (.Call (.Attribute (.Name x _) n p2) [v] [] p3) _ => decide (n = "append") && vis P.N sc i x && !isStar v && (p2.endLine == p3.line) && chk P.toStc sc e (.e v)
  | .ext i e, .Expr (.Call (.Attribute (.Name x _) n p2) [v] [] p3) _ => decide (n = "extend") && vis P.N sc i x && !isStar v && (p2.endLine == p3.line) && chk P.toStc sc e (.e v)
  | .drop e, .Expr v _ => !isComp v && chk P.toStc sc e (.e v)
  | .ret e, .Return (some v) _ => chk P.toStc sc e (.e v)
  | .ret (.con .non), .Return none _ => true
  | .iff c a b, .If x y z _ => chk P.toStc sc c (.t x) && chkSs P A sc a y && chkSs P A sc b z
  | .fr t it b, .For tg ix y [] _ => chkTg P.N sc t tg && (t.slots.all fun i => A.contains i) && !isSet ix && chk P.toStc sc it (srcV it tg ix) && chkSs P A sc b y
  | .wh c b, .While x y [] _ => chk P.toStc sc c (.t x) && chkSs P A sc b y
  | .rais c [], .Raise (some (.Call (.Name x _) [.Constant (.str _) _ _] [] _)) none _ => decide (P.cnm[c]? = some x) && glb sc x
  | .tr b (h :: hs), .Try y (e :: es) [] [] _ => chkSs P A sc b y && chkH P.cnm sc (h :: hs) (e :: es)
  | _, _ => false
def chkSs (P : Stx) (A : List Nat) (sc : Scope) : List S → List Stmt → Bool
  | [], [] => true
  | c :: cs, x :: xs => chkS P A sc c x && chkSs P A sc cs xs
  | _, _ => false
end
end M
end

section
set_option Elab.async false
set_option autoImplicit false
set_option linter.all false
set_option maxRecDepth 100000
set_option maxHeartbeats 8000000
/-! SoundV: what the check of statements gives. -/
namespace M
open PySem (Addr Str PyData Operator CmpOp UnaryOp Value Expr Stmt Scope NameKind ExceptHandler)
open L2 (V Hp HO SqT SqL Rd upd upd_same upd_ne St VK XK WX TE TT TA TG TGs TI TS It R2 OpR UnR CallR Dp DpAll rI0 rI Cx Room TruV PE PT PW PA PG PGs PI PTs PS PSs PMk Ends Inv Vis Loc Gl Takes Sp FnOk Binds)
/-- a def's body, or a try's within it -/
structure SOk (P : Stx) (G : Pg) (C : Nat → List T → CR) (ad : Nat → Addr) (xr : Nat → List T → Value → Option Addr → Hp → Prop) (k : Nat) (sc : Scope) (X : Cx) (W : WX) : Prop where
  x : XOk P.toStc G C ad xr k sc X W
  hp : PySem.PassesOwn (PySem.model X.prog X.w) X.A X.env X.xe
  hs : X.stack = X.env :: X.outer
  hf : X.env.frame = some X.env.locals
  sc_eq : X.env.scope = sc
  cls : ∀ (c : Nat) (x : Str), P.cnm[c]? = some x → ∃ Ca B newId initId bmB, PySem.ExcBaseFacts B newId initId bmB ∧ PySem.W.excIn X.K Ca bmB newId = true ∧ X.mg x = some (.ref Ca) ∧ PySem.W.keepIn X.K (.ref Ca) = true ∧ L2.Raises X (.ref Ca) ∧ (∀ H, xr c [] (.ref Ca) none H) ∧
    ∀ c' fs cl d H, xr c' fs cl d H → PySem.W.exmOne X.K cl (.ref Ca) = some (G.sub c' c)
section
variable {P : Stx} {G : Pg} {C : Nat → List T → CR} {ad : Nat → Addr} {xr : Nat → List T → Value → Option Addr → Hp → Prop} {k : Nat} {sc : Scope} {X : Cx} {W : WX} {A : List Nat} {pos p1 p2 p3 : PySem.Pos} {i : Nat} {x : Str}
theorem SOk.tr (ok : SOk P G C ad xr k sc X W) {W' : WX} {pn : List (Addr × PySem.Obj)} {xe : Value → PySem.Shared → Prop} (tk : Takes (X.tr pn xe) W') (hp : PySem.PassesOwn (PySem.model X.prog X.w) X.A X.env xe) : SOk P G C ad xr k sc (X.tr pn xe) W' :=
  ⟨⟨ok.x.hN, ok.x.nd, ok.x.calm, ok.x.room, tk, ⟨ok.x.scs.loc, ok.x.scs.cell, ok.x.scs.free, ok.x.scs.glob⟩, ok.x.kind, ok.x.fns, ok.x.cons, ok.x.blt, fun j x h => by
    obtain ⟨d, u, h1, h2, h3⟩ := ok.x.dics j x h
    exact ⟨d, u, h1, h2, ⟨h3.at_⟩⟩⟩, hp, ok.hs, ok.hf, ok.sc_eq, ok.cls⟩
theorem sto_ok (ok : XOk P.toStc G C ad xr k sc X W) (h : sto P.N sc A i x = true) : i ∈ A ∧ X.N[i]? = some x ∧ i < X.N.length ∧ Loc X.env.scope x ∧ (X.fn x = true ∨ X.env.scope.names.lookup x = some .local) := by
  unfold sto at h
  simp only [Bool.and_eq_true, decide_eq_true_eq, Bool.or_eq_true] at h
  obtain ⟨⟨h1, h2⟩, h3⟩ := h
  obtain ⟨h4, h5⟩ := ok.scs.store h3
  refine ⟨by simpa using h1, by rw [ok.hN]; exact h2, ?_, h4, h5⟩
  rw [ok.hN]; exact (List.getElem?_eq_some_iff.mp h2).1
theorem comp_form {v : Expr} (h : lcForm v = true) : isComp v = false ∨ ∃ a b c d, v = .ListComp a b c d := by
  cases v <;> first | exact .inr ⟨_, _, _, _, rfl⟩ | exact .inl rfl | cases h
/-- name = value, by either road -/
theorem set_asg (ok : SOk P G C ad xr k sc X W) {e : E} {v : Expr} (hst : sto P.N sc A i x = true) (hv : lcForm v = true) (h : chk P.toStc sc e (.e v) = true) : ∃ te : TE, PS X (.Assign [.Name x p1] v pos) (L2.tAsg te (L2.gName i)) ∧ ∀ σ H Q, σ.length = X.N.length → eR X.K ad xr W (ev G C e) σ H Q → te σ H Q := by
  obtain ⟨h1, h2, h3, h4, h5⟩ := sto_ok ok.x hst
  have kind : sc.kind = .function := ok.sc_eq ▸ ok.x.kind
  have hsw := fun l => swB_ok (l := l) (x := x) (p' := p1) ok.sc_eq kind (comp_form hv)
  cases hb : swB sc x p1 v with
  | false =>
    rw [hb] at hsw
    exact ⟨_, L2.ps_set ok.x.nd h2 h4 (chk_ok e ok.x _ h) (hsw _) h5, fun σ H Q _ q => q⟩
  | true =>
    rw [hb] at hsw
    cases v <;> (try (simp [swB] at hb; done))
    rename_i elt gens s2 p
    have hloc : X.env.scope.names.lookup x = some .local := by
      simp only [swB, Bool.and_eq_true, beq_iff_eq] at hb
      exact ok.x.scs.loc x hb.1.1
    cases e <;> (try (simp [chk, norm] at h; done))
    case pop j ix =>
      match ix, h with
      | [], h => simp [chk, norm] at h
      | [_], h => simp [chk, norm] at h
      | _ :: _ :: _, h => simp [chk, norm] at h
    case lc t it cs elt' own =>
      simp only [chk, norm] at h
      split at h
      · rename_i xx tg ix ifs s2' p' e
        cases e
        simp only [Bool.and_eq_true, decide_eq_true_eq, Bool.not_eq_true'] at h
        obtain ⟨⟨⟨⟨⟨⟨⟨⟨k1, k2⟩, k3⟩, k4⟩, k5⟩, k6⟩, k7⟩, k8⟩, k9⟩ := h
        have bo := blk_ok ok.x.scs ok.x.hN k3
        have hk := bo.kind
        have hsl : ∀ i ∈ t.slots, i ∈ own := fun i hi => by simpa using List.all_eq_true.mp k6 i hi
        have hg : ∀ (s : PySem.Shared) (H : Hp) (Cc : Addr) (cl : List (Str × Addr)) (fp : List Addr), PG (X.blk s H s2 (PySem.compEnvC s2 cl Cc X.env) fp) tg (gTg X.K t) := fun s H Cc cl fp => g_ok (X := X.blk s H s2 (PySem.compEnvC s2 cl Cc X.env) fp) ok.x.calm ok.x.nd (ok.x.blk hk).scs (by rw [ok.x.hN]; exact k5)
        have ht : ∀ (s : PySem.Shared) (H : Hp) (Cc : Addr) (cl : List (Str × Addr)) (fp : List Addr), PTs (X.blk s H s2 (PySem.compEnvC s2 cl Cc X.env) fp) ifs (ttR X.K ad xr G C cs) := fun s H Cc cl fp => chkT_ok cs (ok.x.blk hk) _ k8 k7
        have he : ∀ (s : PySem.Shared) (H : Hp) (Cc : Addr) (cl : List (Str × Addr)) (fp : List Addr), PE (X.blk s H s2 (PySem.compEnvC s2 cl Cc X.env) fp) elt (eR X.K ad xr W0 (ev G C elt')) := fun s H Cc cl fp => chk_ok elt' (ok.x.blk hk) _ k9
        refine ⟨_, L2.ps_setLc ok.x.calm ok.x.nd h2 hloc (hsw _) (sat_src (chk_ok it ok.x _ k1)) bo hg ht he (folded_ok k2 _), fun σ H Q hl q => ?_⟩
        rw [k4]
        exact i_lc k7 hsl (fun i hi => by rw [hl, ok.x.hN]; exact chkTg_slots k5 i hi) q
      · cases h
    case lc2 t it t1 it1 cs elt' own own1 =>
      simp only [chk, norm] at h
      split at h
      · rename_i xx tg ix tg1 ix1 ifs s2' p' e
        cases e
        simp only [Bool.and_eq_true, decide_eq_true_eq, Bool.not_eq_true'] at h
        obtain ⟨⟨⟨⟨⟨⟨⟨⟨⟨⟨⟨⟨⟨k1, k2⟩, k3⟩, k4⟩, k5⟩, k6⟩, m1⟩, m2⟩, m3⟩, m4⟩, m5⟩, k7⟩, k8⟩, k9⟩ := h
        have bo := blk_ok ok.x.scs ok.x.hN k3
        have hk := bo.kind
        have hsl : ∀ i ∈ t.slots, i ∈ own := fun i hi => by simpa using List.all_eq_true.mp k6 i hi
        have hsl1 : ∀ i ∈ t1.slots, i ∈ own1 := fun i hi => by simpa using List.all_eq_true.mp m4 i hi
        have hsub : ∀ i ∈ own1, i ∈ own := fun i hi => by simpa using List.all_eq_true.mp m5 i hi
        have hg : ∀ (s : PySem.Shared) (H : Hp) (Cc : Addr) (cl : List (Str × Addr)) (fp : List Addr), PG (X.blk s H s2 (PySem.compEnvC s2 cl Cc X.env) fp) tg (gTg X.K t) := fun s H Cc cl fp => g_ok (X := X.blk s H s2 (PySem.compEnvC s2 cl Cc X.env) fp) ok.x.calm ok.x.nd (ok.x.blk hk).scs (by rw [ok.x.hN]; exact k5)
        have hg1 : ∀ (s : PySem.Shared) (H : Hp) (Cc : Addr) (cl : List (Str × Addr)) (fp : List Addr), PG (X.blk s H s2 (PySem.compEnvC s2 cl Cc X.env) fp) tg1 (gTg X.K t1) := fun s H Cc cl fp => g_ok (X := X.blk s H s2 (PySem.compEnvC s2 cl Cc X.env) fp) ok.x.calm ok.x.nd (ok.x.blk hk).scs (by rw [ok.x.hN]; exact m3)
        have hi1 : ∀ (s : PySem.Shared) (H : Hp) (Cc : Addr) (cl : List (Str × Addr)) (fp : List Addr), PI (X.blk s H s2 (PySem.compEnvC s2 cl Cc X.env) fp) tg1 ix1 (iR X.K ad xr W0 fun s => srcE (ag it1 (ev G C it1 s) s)) := fun s H Cc cl fp => sat_src (chk_ok it1 (ok.x.blk hk) _ m1)
        have ht0 : ∀ (s : PySem.Shared) (H : Hp) (Cc : Addr) (cl : List (Str × Addr)) (fp : List Addr), PTs (X.blk s H s2 (PySem.compEnvC s2 cl Cc X.env) fp) [] (ttR X.K ad xr G C []) := fun s H Cc cl fp => L2.pts_nil
        have ht : ∀ (s : PySem.Shared) (H : Hp) (Cc : Addr) (cl : List (Str × Addr)) (fp : List Addr), PTs (X.blk s H s2 (PySem.compEnvC s2 cl Cc X.env) fp) ifs (ttR X.K ad xr G C cs) := fun s H Cc cl fp => chkT_ok cs (ok.x.blk hk) _ k8 k7
        have he : ∀ (s : PySem.Shared) (H : Hp) (Cc : Addr) (cl : List (Str × Addr)) (fp : List Addr), PE (X.blk s H s2 (PySem.compEnvC s2 cl Cc X.env) fp) elt (eR X.K ad xr W0 (ev G C elt')) := fun s H Cc cl fp => chk_ok elt' (ok.x.blk hk) _ k9
        refine ⟨_, L2.ps_setLc2 (vs1 := own1) ok.x.calm ok.x.nd h2 hloc (hsw _) (sat_src (chk_ok it ok.x _ k1)) bo (by rw [k4]; exact hsub) hg ht0 hi1 hg1 ht he (folded_ok k2 _) (folded_ok m2), fun σ H Q hl q => ?_⟩
        rw [k4]
        exact i_lc2 k7 hsl (fun i hi => by rw [hl, ok.x.hN]; exact chkTg_slots k5 i hi) hsl1 (fun i hi => by rw [hl, ok.x.hN]; exact chkTg_slots m3 i hi) hsub q
      · cases h
theorem stoL_ok (ok : XOk P.toStc G C ad xr k sc X W) : ∀ {is : List Nat} {es : List Expr}, stoL P.N sc A is es = true → PGs X es (is.foldr (fun i g => L2.gCons (L2.gName i) g) L2.gNil) ∧ (PySem.assignEach es X.env).length = is.length ∧ (PySem.assignEach es X.env).findIdx? (·.1) = none ∧ (∀ i ∈ is, i ∈ A ∧ i < X.N.length)
  | [], [], _ => ⟨L2.pgs_nil, rfl, rfl, by simp⟩
  | [], _ :: _, h => by simp [stoL] at h
  | _ :: _, [], h => by simp [stoL] at h
  | i :: is, e :: es, h => by
    cases e <;> (try (simp [stoL] at h; done))
    rename_i x q
    rw [stoL, Bool.and_eq_true] at h
    obtain ⟨h1, h2, h3, h4, h5⟩ := sto_ok ok h.1
    obtain ⟨q1, q2, q3, q4⟩ := stoL_ok ok h.2
    refine ⟨L2.pgs_cons (L2.pg_name ok.nd h2 h4 h5) q1 rfl, ?_, ?_, fun j hj => ?_⟩
    · rw [assignEach_name, List.length_cons, q2, List.length_cons]
    · rw [assignEach_name, List.findIdx?_cons]; simp [q3]
    · rcases List.mem_cons.mp hj with e | e
      · subst e; exact ⟨h1, h3⟩
      · exact q4 j e
theorem stoL_pg (ok : XOk P.toStc G C ad xr k sc X W) {is : List Nat} {es : List Expr} {j : Nat} (h : stoL P.N sc A is es = true) : PG X (.Tuple es j pos) (gTg X.K (.tp is)) := by
  obtain ⟨q1, q2, q3, q4⟩ := stoL_ok ok h
  exact L2.pg_tup ok.calm q1 q2 q3
/-- the suites: an answer -/
theorem chkU_ok {X' : Cx} {cs : List S} {ss : List Stmt} (h : chkU cs ss = true) : PSs X' ss (sR X'.K ad xr W0 A (exs G C cs)) := by
  unfold chkU at h
  split at h
  · exact x_cons (x_ret (con_ok h)) x_nil
  · exact x_cons x_retN x_nil
  · cases h
theorem chkH_ok (ok : SOk P G C ad xr k sc X W) : ∀ {hs : List (Nat × Option Nat × List S)} {es : List ExceptHandler}, chkH P.cnm sc hs es = true → ∃ l, L2.HdsOk X es l ∧ All2 (fun x y => x.2.1 = none ∧ (∀ c fs cls d H, xr c fs cls d H → PySem.W.exmOne X.K cls y.1 = some (G.sub c x.1)) ∧ ∀ a cls d, y.2 a cls d = sR X.K ad xr W0 A (exs G C x.2.2)) hs l
  | [], [], _ => ⟨[], .nil, .nil⟩
  | [], _ :: _, h => by simp [chkH] at h
  | (c, nm, b) :: hs, es, h => by
    unfold chkH at h
    split at h
    · rename_i e; cases e
    · rename_i c' b' hs' x p s ss p' es' e
      cases e
      simp only [Bool.and_eq_true, decide_eq_true_eq] at h
      obtain ⟨⟨⟨h1, h2⟩, h3⟩, h4⟩ := h
      obtain ⟨l, q1, q2⟩ := chkH_ok ok h4
      obtain ⟨Ca, B, ni, ii, bm, m1, m2, m3, m4, m5, m6, m7⟩ := ok.cls c x h1
      obtain ⟨g1, g2⟩ := glb_ok ok.x h2
      exact ⟨(.ref Ca, fun _ _ _ => sR X.K ad xr W0 A (exs G C b)) :: l, .cons ⟨g1, g2, .inl m3⟩ (fun a oe cls d pn _ _ => chkU_ok (X' := X.suite a ((a, oe) :: pn)) h3) q1, .cons ⟨rfl, m7, fun _ _ _ => rfl⟩ q2⟩
    · cases h
theorem isTup_sw {ts : List Expr} {j : Nat} {v : Expr} (h : isTup v = false) : PySem.swappedStores [.Tuple ts j p1] v X.env = pure none := by
  cases v <;> first | rfl | cases h
theorem names3 {ts : List Expr} (h : (ts.all fun | .Name x _ => decide (sc.names.lookup x = some .local) | _ => false) = true) : ∀ e ∈ ts, ∃ x p, e = .Name x p ∧ sc.names.lookup x = some .local := fun e he => by
  have := List.all_eq_true.mp h e he
  cases e <;> first | (simp at this; done) | skip
  rename_i x p
  exact ⟨x, p, rfl, by simpa using this⟩
theorem len2 {α : Type} {l : List α} (h : l.length = 2) : ∃ a b, l = [a, b] := by
  match l, h with
  | [a, b], _ => exact ⟨a, b, rfl⟩
theorem len3 {α : Type} {l : List α} (h : l.length = 3) : ∃ a b c, l = [a, b, c] := by
  match l, h with
  | [a, b, c], _ => exact ⟨a, b, c, rfl⟩
theorem swS_len {ts vs : List Expr} {ns : List Str} (h : swS sc ts vs = some (some ns)) : vs.length = ts.length := by
  unfold swS at h
  split at h
  · cases h
  · rename_i c
    simp only [Bool.or_eq_true, not_or, bne_iff_ne, ne_eq, Decidable.not_not] at c
    exact c.2
mutual
theorem chkS_ok : ∀ (c : S) {X : Cx} {W : WX} (ok : SOk P G C ad xr k sc X W) (st : Stmt), chkS P A sc c st = true → PS X st (sR X.K ad xr W A (ex1 G C c))
  | .pass, X, W, ok, st, h => by
    unfold chkS at h
    split at h <;> (try (rename_i e; cases e; done))
    · exact x_pass
    · exact x_doc
    · cases h
  | .set i e, X, W, ok, st, h => by
    unfold chkS at h
    split at h <;> (try (rename_i e; cases e; done))
    · rename_i e
      cases e
      simp only [Bool.and_eq_true] at h
      obtain ⟨te, q1, q2⟩ := set_asg ok h.1.1 h.1.2 h.2
      obtain ⟨h1, h2, h3, h4, h5⟩ := sto_ok ok.x h.1.1
      exact x_set h1 h3 q1 q2
    · cases h
  | .own i e, X, W, ok, st, h => by
    unfold chkS at h
    split at h <;> (try (rename_i e; cases e; done))
    · rename_i e
      cases e
      simp only [Bool.and_eq_true] at h
      obtain ⟨te, q1, q2⟩ := set_asg ok h.1.1 h.1.2 h.2
      obtain ⟨h1, h2, h3, h4, h5⟩ := sto_ok ok.x h.1.1
      exact x_own h1 h3 q1 q2
    · cases h
  | .par is cs, X, W, ok, st, h => by
    unfold chkS at h
    split at h <;> (try (rename_i e; cases e; done))
    · rename_i e
      cases e
      rename_i ts j1 q1 vs j2 q2 q3
      simp only [Bool.and_eq_true, decide_eq_true_eq] at h
      obtain ⟨⟨⟨⟨⟨h1, h2⟩, h3⟩, h4⟩, h5⟩, h6⟩ := h
      obtain ⟨m1, m2, m3, m4⟩ := stoL_ok ok.x h1
      have kind : sc.kind = .function := ok.sc_eq ▸ ok.x.kind
      have hA : ∀ j ∈ is.map (·.1), j ∈ A := fun j hj => (m4 j hj).1
      have hi : ∀ q ∈ is, q.1 < X.N.length := fun q hq => (m4 q.1 (List.mem_map_of_mem hq)).2
      have ha := chkL_ok cs ok.x vs h5
      have tupR : PySem.swappedStores [.Tuple ts j1 q1] (.Tuple vs j2 q2) X.env = pure none → PS X (.Assign [.Tuple ts j1 q1] (.Tuple vs j2 q2) q3) (sR X.K ad xr W A (ex1 G C (.par is cs))) := fun e =>
        x_parT (Nat.le_trans h3 (by unfold LIM; omega)) hA hi ha fun t ht => L2.ps_asg (L2.pe_tup ht) (stoL_pg ok.x h1) (sw_sole rfl) e rfl
      split at h6
      · cases h6
      · rename_i e; exact tupR (swS_ok ok.sc_eq kind e)
      · rename_i ns e
        have es := swS_ok (k := j1) (k2 := j2) (p := q1) (p2 := q2) ok.sc_eq kind e
        simp only [Bool.and_eq_true, decide_eq_true_eq, Bool.or_eq_true, beq_iff_eq] at h6
        obtain ⟨⟨e1, e2⟩, e3⟩ := h6
        have hl := swS_len e
        have nm := names3 e3
        have sc1 : ∀ {x : Str}, sc.names.lookup x = some .local → X.env.scope.names.lookup x = some .local := fun h => ok.x.scs.loc _ h
        rcases e2 with e2 | e2
        · obtain ⟨⟨i, wa⟩, ⟨j, wb⟩, rfl⟩ := len2 e2
          obtain ⟨t1, t2, rfl⟩ := len2 (h2.symm.trans e2)
          obtain ⟨v1, v2, rfl⟩ := len2 (hl.trans (h2.symm.trans e2))
          · obtain ⟨x, p, rfl, l1⟩ := nm t1 (by simp)
            obtain ⟨y, p', rfl, l2⟩ := nm t2 (by simp)
            simp only [List.map_cons, List.map_nil, stoL, Bool.and_eq_true] at h1
            obtain ⟨_, n1, _⟩ := sto_ok ok.x h1.1
            obtain ⟨_, n2, _⟩ := sto_ok ok.x h1.2.1
            rw [← ok.x.hN] at e1
            simp only [List.map_cons, List.map_nil, List.filterMap_cons, n1, n2, List.filterMap_nil] at e1
            rw [e1] at es
            have hij : i ≠ j := by simpa using h4
            exact x_par hA hi ha (fun ha => L2.ps_par ok.x.calm ok.x.nd n1 n2 hij (sc1 l1) (sc1 l2) ha es (sw_sole rfl)) fun D σ H q => u_par2 q lR_mono
        · obtain ⟨⟨i, wa⟩, ⟨j, wb⟩, ⟨l, wc⟩, rfl⟩ := len3 e2
          obtain ⟨t1, t2, t3, rfl⟩ := len3 (h2.symm.trans e2)
          obtain ⟨v1, v2, v3, rfl⟩ := len3 (hl.trans (h2.symm.trans e2))
          · obtain ⟨x, p, rfl, l1⟩ := nm t1 (by simp)
            obtain ⟨y, p', rfl, l2⟩ := nm t2 (by simp)
            obtain ⟨z, p'', rfl, l3⟩ := nm t3 (by simp)
            simp only [List.map_cons, List.map_nil, stoL, Bool.and_eq_true] at h1
            obtain ⟨_, n1, _⟩ := sto_ok ok.x h1.1
            obtain ⟨_, n2, _⟩ := sto_ok ok.x h1.2.1
            obtain ⟨_, n3, _⟩ := sto_ok ok.x h1.2.2.1
            rw [← ok.x.hN] at e1
            simp only [List.map_cons, List.map_nil, List.filterMap_cons, n1, n2, n3, List.filterMap_nil] at e1
            rw [e1] at es
            have hij : i ≠ j ∧ i ≠ l ∧ j ≠ l := by
              simp only [List.map_cons, List.map_nil, List.nodup_cons, List.mem_cons, not_or, List.not_mem_nil, not_false_eq_true, and_true] at h4
              exact ⟨h4.1.1, h4.1.2, h4.2.1⟩
            exact x_par hA hi ha (fun ha => L2.ps_par3 ok.x.calm ok.x.nd n1 n2 n3 hij.1 hij.2.1 hij.2.2 (sc1 l1) (sc1 l2) (sc1 l3) ha es (sw_sole rfl)) fun D σ H q => u_par3 q lR_mono
    · cases h
  | .unp is e, X, W, ok, st, h => by
    unfold chkS at h
    split at h <;> (try (rename_i e; cases e; done))
    · rename_i e
      cases e
      rename_i ts j1 q1 v q3
      simp only [Bool.and_eq_true, decide_eq_true_eq, Bool.not_eq_true'] at h
      obtain ⟨⟨⟨⟨h1, h2⟩, h3⟩, h4⟩, h5⟩ := h
      obtain ⟨m1, m2, m3, m4⟩ := stoL_ok ok.x h1
      exact x_unp (tg := .Tuple ts j1 q1) (fun j hj => (m4 j hj).1) (fun j hj => (m4 j hj).2) (chk_ok e ok.x _ h5) fun te he => L2.ps_asg he (stoL_pg ok.x h1) (sw_sole h4) (isTup_sw h3) rfl
    · cases h
  | .aug i o e, X, W, ok, st, h => by
    unfold chkS at h
    split at h <;> (try (rename_i e; cases e; done))
    · rename_i e
      cases e
      simp only [Bool.and_eq_true, decide_eq_true_eq] at h
      obtain ⟨⟨h1, h2⟩, h3⟩ := h
      obtain ⟨m1, m2, m3, m4, m5⟩ := sto_ok ok.x h1
      exact x_aug m1 m3 h2 (chk_ok e ok.x _ h3) fun te ti he ho => L2.ps_aug ok.x.nd m2 m4 he ho m5
    · cases h
  | .stI i p ck ce, X, W, ok, st, h => by
    unfold chkS at h
    split at h <;> (try (rename_i e; cases e; done))
    · rename_i e
      cases e
      simp only [Bool.and_eq_true, Bool.not_eq_true'] at h
      obtain ⟨⟨⟨⟨h1, h2⟩, h3⟩, h4⟩, h5⟩ := h
      refine x_stI (pos' := ⟨0, 0, 0, 0⟩) (vis_ok ok.x h1) (chk_ok ck ok.x _ h4) (chk_ok ce ok.x _ h5) (fun v => ?_) (sw_sole h3) ?_
      · rename_i x q kx tp v' sp
        cases kx <;> first | rfl | cases h2
      · rename_i x q kx tp v' sp
        cases v' <;> rfl
    · rename_i e
      cases e
      rename_i cp x q px tq kx tp v' sp
      simp only [Bool.and_eq_true, Bool.not_eq_true'] at h
      obtain ⟨⟨⟨⟨⟨⟨⟨⟨h1, h2⟩, h3⟩, h4⟩, h5⟩, h6⟩, h7⟩, h8⟩, h9⟩ := h
      refine x_stI2 (vis_ok ok.x h1) h2 h4 h5 (chkP_ok ok.x _ _ h6) (chkP_ok ok.x ck _ h7) (chk_ok ce ok.x _ h9) (fun v => ?_) (sw_sole h8) ?_
      · cases kx <;> first | rfl | cases h3
      · cases v' <;> rfl
    · cases h
  | .app i e, X, W, ok, st, h => by
    unfold chkS at h
    split at h <;> (try (rename_i e; cases e; done))
    · rename_i e
      cases e
      simp only [Bool.and_eq_true, decide_eq_true_eq, Bool.not_eq_true'] at h
      obtain ⟨⟨⟨⟨h1, h2⟩, h3⟩, h4⟩, h5⟩ := h
      subst h1
      exact x_app (vis_ok ok.x h2) h3 (chk_ok e ok.x _ h5) h4
    · cases h
  | .ext i e, X, W, ok, st, h => by
    unfold chkS at h
    split at h <;> (try (rename_i e; cases e; done))
    · rename_i e
      cases e
      simp only [Bool.and_eq_true, decide_eq_true_eq, Bool.not_eq_true'] at h
      obtain ⟨⟨⟨⟨h1, h2⟩, h3⟩, h4⟩, h5⟩ := h
      subst h1
      exact x_ext (vis_ok ok.x h2) h3 (chk_ok e ok.x _ h5) h4
    · cases h
  | .drop e, X, W, ok, st, h => by
    unfold chkS at h
    split at h <;> (try (rename_i e; cases e; done))
    · rename_i e
      cases e
      simp only [Bool.and_eq_true, Bool.not_eq_true'] at h
      exact x_drop (L2.ps_expr (chk_ok e ok.x _ h.2) (sw_none h.1))
    · cases h
  | .ret e, X, W, ok, st, h => by
    unfold chkS at h
    split at h <;> (try (rename_i e; cases e; done))
    · rename_i e'
      cases e'
      exact x_ret (chk_ok e ok.x _ h)
    · rename_i e1 e2
      cases e1
      cases e2
      exact x_retN
    · cases h
  | .iff c a b, X, W, ok, st, h => by
    unfold chkS at h
    split at h <;> (try (rename_i e; cases e; done))
    · rename_i e
      cases e
      simp only [Bool.and_eq_true] at h
      exact x_if (chk_ok c ok.x _ h.1.1) (chkSs_ok a ok _ h.1.2) (chkSs_ok b ok _ h.2)
    · cases h
  | .fr t it b, X, W, ok, st, h => by
    unfold chkS at h
    split at h <;> (try (rename_i e; cases e; done))
    · rename_i e
      cases e
      rename_i tg ix y q
      simp only [Bool.and_eq_true, Bool.not_eq_true'] at h
      obtain ⟨⟨⟨⟨h1, h2⟩, h3⟩, h4⟩, h5⟩ := h
      exact x_fr ok.hp ok.x.calm (fun j hj => by simpa using List.all_eq_true.mp h2 j hj) (fun j hj => by rw [ok.x.hN]; exact chkTg_slots h1 j hj) (sat_src (chk_ok it ok.x _ h4)) (g_ok ok.x.calm ok.x.nd ok.x.scs (by rw [ok.x.hN]; exact h1)) (chkSs_ok b ok _ h5) (folded_ok h3 _)
    · cases h
  | .wh c b, X, W, ok, st, h => by
    unfold chkS at h
    split at h <;> (try (rename_i e; cases e; done))
    · rename_i e
      cases e
      simp only [Bool.and_eq_true] at h
      exact x_wh ok.hp (chk_ok c ok.x _ h.1) (chkSs_ok b ok _ h.2)
    · cases h
  | .rais c es, X, W, ok, st, h => by
    unfold chkS at h
    split at h <;> (try (rename_i e; cases e; done))
    · rename_i e
      cases e
      simp only [Bool.and_eq_true, decide_eq_true_eq] at h
      obtain ⟨Ca, B, ni, ii, bm, m1, m2, m3, m4, m5, m6, m7⟩ := ok.cls c _ h.1
      obtain ⟨g1, g2⟩ := glb_ok ok.x h.2
      exact x_rais m6 (L2.ps_raise ok.x.calm ok.x.tk (L2.pmk_own m1 m2 m3 m4 m5 g1 g2))
    · cases h
  | .tr b hs, X, W, ok, st, h => by
    unfold chkS at h
    split at h <;> (try (rename_i e; cases e; done))
    · rename_i e
      cases e
      rename_i hd hs' y e es q
      simp only [Bool.and_eq_true] at h
      obtain ⟨l, q1, q2⟩ := chkH_ok (A := A) ok h.2
      exact x_tr (L2.ps_try_many (tb := fun W' => sR X.K ad xr W' A (exs G C b)) ok.hs ok.hf ok.x.tk (fun W' pn xe tk hp => chkSs_ok b (ok.tr tk hp) _ h.1) q1) q2
    · cases h
theorem chkSs_ok : ∀ (cs : List S) {X : Cx} {W : WX} (ok : SOk P G C ad xr k sc X W) (ss : List Stmt), chkSs P A sc cs ss = true → PSs X ss (sR X.K ad xr W A (exs G C cs))
  | [], X, W, ok, [], h => x_nil
  | [], X, W, ok, _ :: _, h => by simp [chkSs] at h
  | _ :: _, X, W, ok, [], h => by simp [chkSs] at h
  | c :: cs, X, W, ok, s :: ss, h => by
    rw [chkSs, Bool.and_eq_true] at h
    exact x_cons (chkS_ok c ok s h.1) (chkSs_ok cs ok ss h.2)
end
end
end M
end

section
set_option Elab.async false
set_option autoImplicit false
set_option linter.all false
set_option maxRecDepth 100000
set_option maxHeartbeats 4000000
/-! SoundW: a def keeps its promise. -/
namespace M
open PySem (Addr Str PyData Operator CmpOp UnaryOp Value Expr Stmt Scope NameKind ExceptHandler FuncData Program World)
open L2 (V Hp HO SqT SqL Rd upd upd_same upd_ne St VK XK WX TE TT TA TG TGs TI TS It R2 OpR UnR CallR Dp DpAll rI0 rI Cx Room TruV PE PT PW PA PG PGs PI PTs PS PSs PMk Ends Inv Vis Loc Gl Takes Sp FnOk Binds)
section
variable {K : PySem.W.Frag} {ad : Nat → Addr} {xr : Nat → List T → Value → Option Addr → Hp → Prop} {W : WX} {H H' : Hp} {τ τ' : Sl} {σ σ' : St} {Ss Ss' : Nat → List Addr} {A : List Nat}
def Md.ow : Md → Ow
  | .va => .sh
  | .ro => .ro
  | .io => .ow
theorem rd_enter {md : List Md} {ts : List T} {n i : Nat} {t : T} {w : Ow} (hl : ts.length = md.length) (h : rd (enter md ts n) i = some (t, w)) : ∃ m, md[i]? = some m ∧ ts[i]? = some t ∧ w = m.ow := by
  unfold rd enter at h
  by_cases hi : i < md.length
  · rw [List.getElem?_append_left (by simp; omega)] at h
    rw [List.getElem?_map] at h
    have e : (md.zip ts)[i]? = some (md[i], ts[i]'(by omega)) := by
      rw [List.getElem?_eq_getElem (by simp; omega)]; simp
    rw [e] at h
    refine ⟨md[i], List.getElem?_eq_getElem hi, ?_, ?_⟩
    · cases hm : md[i] <;> rw [hm] at h <;> simp at h <;> rw [List.getElem?_eq_getElem (by omega)] <;> simp [h.1]
    · cases hm : md[i] <;> rw [hm] at h <;> simp at h <;> simp [Md.ow, h.2]
  · rw [List.getElem?_append_right (by simp; omega), List.getElem?_replicate] at h
    split at h <;> simp at h
theorem rd_enter' {md : List Md} {ts : List T} {n i : Nat} {m : Md} {t : T} (hl : ts.length = md.length) (hm : md[i]? = some m) (ht : ts[i]? = some t) : rd (enter md ts n) i = some (t, m.ow) := by
  have hi := (List.getElem?_eq_some_iff.mp hm).1
  unfold rd enter
  rw [List.getElem?_append_left (by simp; omega), List.getElem?_map]
  have e : (md.zip ts)[i]? = some (m, t) := by
    rw [List.getElem?_zip_eq_some]; exact ⟨hm, ht⟩
  rw [e]
  cases m <;> rfl
theorem enter_length {md : List Md} {ts : List T} {n : Nat} (hl : ts.length = md.length) (hn : md.length ≤ n) : (enter md ts n).length = n := by
  unfold enter
  simp
  omega
/-- the slots at the entry -/
theorem rel_start {N : List Str} {md : List Md} {ts : List T} {vs : List V} {Sls : List (List Addr)} (a : ArgOk K ad H md ts vs Sls) (hn : md.length ≤ N.length) : Rel K ad (enter md ts N.length) (L2.start N vs) H fun i => (Sls[i]?).getD [] where
  len := by
    rw [enter_length a.lt hn]
    unfold L2.start
    have := a.lv
    simp
    omega
  ok := fun i => by
    by_cases hi : i < md.length
    · have h1 : ts[i]? = some (ts[i]'(by rw [a.lt]; exact hi)) := List.getElem?_eq_getElem _
      have h2 : vs[i]? = some (vs[i]'(by rw [a.lv]; exact hi)) := List.getElem?_eq_getElem _
      have h3 : Sls[i]? = some (Sls[i]'(by rw [a.ls]; exact hi)) := List.getElem?_eq_getElem _
      rw [rd_enter' a.lt (List.getElem?_eq_getElem hi) h1]
      refine ⟨vs[i]'(by rw [a.lv]; exact hi), ?_, ?_, fun hx => ?_⟩
      · unfold L2.start
        rw [List.getElem?_append_left (by rw [List.length_map, a.lv]; exact hi), List.getElem?_map, h2]; rfl
      · rw [h3]; exact a.rep i _ _ _ h1 h2 h3
      · rw [h3]
        refine (a.io i _ ?_ h3).1
        rw [List.getElem?_eq_getElem hi]
        cases hm : md[i] <;> rw [hm] at hx <;> simp [Md.ow, Ow.excl] at hx <;> rfl
    · have e : rd (enter md ts N.length) i = none := by
        cases h : rd (enter md ts N.length) i with
        | none => rfl
        | some x =>
          obtain ⟨t, w⟩ := x
          obtain ⟨m, hm, _⟩ := rd_enter a.lt h
          exact absurd (List.getElem?_eq_some_iff.mp hm).1 hi
      rw [e]
      show (Sls[i]?).getD [] = []
      rw [List.getElem?_eq_none (by rw [a.ls]; omega)]; rfl
  sep := fun i j hij ⟨t, w, h, hw⟩ b hb hb' => by
    obtain ⟨m, hm, ht, e⟩ := rd_enter a.lt h
    have hio : md[i]? = some .io := by
      rw [hm]; cases m <;> subst e <;> simp [Md.ow, Ow.excl] at hw <;> rfl
    replace hb : b ∈ (Sls[i]?).getD [] := hb
    replace hb' : b ∈ (Sls[j]?).getD [] := hb'
    cases hi : Sls[i]? with
    | none => rw [hi] at hb; cases hb
    | some S =>
      cases hj : Sls[j]? with
      | none => rw [hj] at hb'; cases hb'
      | some S' =>
        rw [hi] at hb; rw [hj] at hb'
        exact (a.io i S hio hi).2 j S' (Ne.symm hij) hj b hb hb'
/-- what the changed ones have become -/
theorem out_rep (R : Rel K ad τ' σ' H' Ss') : ∀ {md : List Md} {vs : List V} {k : Nat} {io : List T}, outIo τ' k md = some io → md.length = vs.length → (∀ i, md[i]? = some .io → σ'[k + i]? = (vs[i]?).map some) → ∃ Sio, IoRep K ad H' md vs io Sio ∧ ∀ S ∈ Sio, ∃ j t, k ≤ j ∧ rd τ' j = some (t, .ow) ∧ S = Ss' j
  | [], [], k, io, h, _, _ => by
    simp only [outIo, Option.some.injEq] at h
    subst h
    exact ⟨[], trivial, by simp⟩
  | [], _ :: _, _, _, _, h, _ => by simp at h
  | _ :: _, [], _, _, _, h, _ => by simp at h
  | m :: md, v :: vs, k, io, h, hl, hv => by
    have hv' : ∀ i, md[i]? = some .io → σ'[k + 1 + i]? = (vs[i]?).map some := fun i hi => by
      have := hv (i + 1) (by simpa using hi)
      rw [show k + 1 + i = k + (i + 1) by omega]
      simpa using this
    have other : (m = .va ∨ m = .ro) → outIo τ' (k + 1) md = some io → ∃ Sio, IoRep K ad H' (m :: md) (v :: vs) io Sio ∧ ∀ S ∈ Sio, ∃ j t, k ≤ j ∧ rd τ' j = some (t, .ow) ∧ S = Ss' j := fun hm h => by
      obtain ⟨Sio, h1, h2⟩ := out_rep R h (by simpa using hl) hv'
      refine ⟨Sio, ?_, fun S hS => ?_⟩
      · rcases hm with e | e <;> subst e <;> exact h1
      · obtain ⟨j, t, q1, q2, q3⟩ := h2 S hS
        exact ⟨j, t, by omega, q2, q3⟩
    cases m with
    | va => exact other (.inl rfl) (by simpa [outIo] using h)
    | ro => exact other (.inr rfl) (by simpa [outIo] using h)
    | io =>
      rw [outIo] at h
      split at h
      · rename_i t hr
        obtain ⟨io', h1, e⟩ := Option.map_eq_some_iff.mp h
        subst e
        obtain ⟨Sio, h2, h3⟩ := out_rep R h1 (by simpa using hl) hv'
        obtain ⟨w, q1, q2, q3⟩ := R.get hr
        have := hv 0 (by simp)
        rw [Nat.add_zero, q1] at this
        simp at this
        subst this
        refine ⟨Ss' k :: Sio, ⟨q2, q3 rfl, fun S' hS' a ha hb => ?_, h2⟩, fun S hS => ?_⟩
        · obtain ⟨j, t', m1, m2, m3⟩ := h3 S' hS'
          subst m3
          exact R.sep k j (by omega) ⟨t, .ow, hr, rfl⟩ a ha hb
        · rcases List.mem_cons.mp hS with e | e
          · exact ⟨k, t, Nat.le_refl k, hr, e⟩
          · obtain ⟨j, t', m1, m2, m3⟩ := h3 S e
            exact ⟨j, t', by omega, m2, m3⟩
      · cases h
theorem own_io {md : List Md} {ts : List T} {vs : List V} {Sls : List (List Addr)} {n : Nat} (a : ArgOk K ad H md ts vs Sls) {b : Addr} (h : Own (enter md ts n) (fun i => (Sls[i]?).getD []) b) : IoOwn md Sls b := by
  obtain ⟨i, t, hr, hb⟩ := h
  replace hb : b ∈ (Sls[i]?).getD [] := hb
  obtain ⟨m, hm, _, e⟩ := rd_enter a.lt hr
  cases hi : Sls[i]? with
  | none => rw [hi] at hb; cases hb
  | some S =>
    rw [hi] at hb
    exact ⟨i, S, by rw [hm]; cases m <;> simp [Md.ow] at e <;> rfl, hi, hb⟩
theorem src_arg {md : List Md} {ts : List T} {vs : List V} {Sls : List (List Addr)} {n : Nat} (a : ArgOk K ad H md ts vs Sls) {b : Addr} (h : Src (enter md ts n) (fun i => (Sls[i]?).getD []) b) : ∃ (i : Nat) (S' : List Addr), md[i]? ≠ some .ro ∧ Sls[i]? = some S' ∧ b ∈ S' := by
  obtain ⟨i, t, w, hr, hw, hb⟩ := h
  replace hb : b ∈ (Sls[i]?).getD [] := hb
  obtain ⟨m, hm, _, e⟩ := rd_enter a.lt hr
  cases hi : Sls[i]? with
  | none => rw [hi] at hb; cases hb
  | some S =>
    rw [hi] at hb
    refine ⟨i, S, fun z => ?_, hi, hb⟩
    rw [hm] at z
    cases z
    subst e
    rcases hw with z | z <;> cases z
/-- the end of a body -/
theorem leave_ok {N : List Str} {md : List Md} {ts : List T} {vs : List V} {Sls : List (List Addr)} {Q : VK} {E : XK} {r : Fl} (a : ArgOk K ad H md ts vs Sls) (hn : md.length ≤ N.length) (hA : ∀ i, md[i]? = some .io → i ∉ A)
    (h : match leave md r with
      | .ok t o io => ∀ v H' S Sio, CallP K ad md H vs Sls io H' Sio → Rep K ad H' t v S → (∀ S' ∈ Sio, ∀ a ∈ S', a ∉ S) → (o = true → S.Nodup ∧ ∀ a ∈ S, IoOwn md Sls a ∨ H a = none) → (∀ a ∈ S, (∃ (i : Nat) (S' : List Addr), md[i]? ≠ some .ro ∧ Sls[i]? = some S' ∧ a ∈ S') ∨ H a = none) → Q v H'
      | .ex c fs io => ∀ cls d H' Sio, CallP K ad md H vs Sls io H' Sio → xr c fs cls d H' → E cls d H'
      | .bad => False) :
    OutF K ad xr (fun cls d _ H' => E cls d H') A (enter md ts N.length) (L2.start N vs) H (fun i => (Sls[i]?).getD []) { nx := fun _ H' => Q .non H', rt := Q } r := by
  have cp : ∀ {s : Sl} {σ' : St} {H' : Hp} {Ss' : Nat → List Addr} {io : List T}, Post K ad (enter md ts N.length) σ' H (fun i => (Sls[i]?).getD []) s H' Ss' → Fr A (L2.start N vs) σ' → outIo s 0 md = some io → ∃ Sio, CallP K ad md H vs Sls io H' Sio ∧ ∀ S ∈ Sio, ∀ b ∈ S, Shut s Ss' b := fun {s σ' H' Ss' io} p fr ho => by
    obtain ⟨Sio, h1, h2⟩ := out_rep p.rel (vs := vs) ho a.lv.symm fun i hi => by
      rw [Nat.zero_add, fr.2 i (hA i hi)]
      unfold L2.start
      have hlt := (List.getElem?_eq_some_iff.mp hi).1
      rw [List.getElem?_append_left (by rw [List.length_map, a.lv]; exact hlt), List.getElem?_map]
    refine ⟨Sio, ⟨fun b o hb nb => p.keep b o hb fun q => nb (own_io a q), p.there, h1, fun S hS b hb => ?_⟩, fun S hS b hb => ?_⟩
    · obtain ⟨j, t, _, q2, q3⟩ := h2 S hS
      subst q3
      exact (p.own b ⟨j, t, q2, hb⟩).imp (own_io a) id
    · obtain ⟨j, t, _, q2, q3⟩ := h2 S hS
      subst q3
      exact ⟨j, ⟨t, .ow, q2, rfl⟩, hb⟩
  cases r with
  | nx s =>
    intro σ' H' Ss' p fr
    cases ho : outIo s 0 md with
    | none => simp only [leave, ho] at h
    | some io =>
      simp only [leave, ho] at h
      obtain ⟨Sio, c1, _⟩ := cp p fr ho
      exact h .non H' [] Sio c1 (by rw [Rep]; exact ⟨rfl, rfl⟩) (by simp) (by simp) (by simp)
  | rt t o s =>
    intro v σ' H' Ss' S p fr w og
    cases ho : outIo s 0 md with
    | none => simp only [leave, ho] at h
    | some io =>
      simp only [leave, ho] at h
      obtain ⟨Sio, c1, c2⟩ := cp p fr ho
      refine h v H' S Sio c1 w.rep (fun S' hS' b hb hb' => w.free b hb' (c2 S' hS' b hb)) (fun e => ⟨(w.mine e).1, fun b hb => ?_⟩) fun b hb => ?_
      · exact ((og b hb).2 e).imp (own_io a) id
      · exact (og b hb).1.imp (src_arg a) id
  | ex c fs s =>
    intro cls d σ' H' Ss' p fr x
    cases ho : outIo s 0 md with
    | none => simp only [leave, ho] at h
    | some io =>
      simp only [leave, ho] at h
      obtain ⟨Sio, c1, _⟩ := cp p fr ho
      exact h cls d H' Sio c1 x
  | bad => exact h
end

/-- what the def's context has: names, classes, other defs -/
structure GOk (P : Stx) (G : Pg) (C : Nat → List T → CR) (ad : Nat → Addr) (xr : Nat → List T → Value → Option Addr → Hp → Prop) (k : Nat) (prog : Program) (w : World) (K : PySem.W.Frag) (mg : Str → Option Value) (base : PySem.Heap) : Prop where
  fns : ∀ (f : Nat) (x : Str), P.fnm[f]? = some x → mg x = some (.ref (ad f)) ∧ PySem.W.keepIn K (.ref (ad f)) = true ∧ ∃ fd ps F, G.fns[f]? = some F ∧ FnOk prog w K mg base (L2.CX prog w) k (ad f) fd ps (spOf K ad xr F.md (C f)) ∧ Binds K fd ps []
  cons : ∀ (j : Nat) (x : Str), P.knm[j]? = some x → ∃ t u v, G.consts[j]? = some t ∧ mg x = some u ∧ L2.RelV v u ∧ ∀ H, Rep K ad H t v []
  blt : ∀ x ∈ blts, mg x = none
  dics : ∀ (j : Nat) (x : Str), P.dnm[j]? = some x → ∃ d u, G.dics[j]? = some d ∧ mg x = some (.ref u) ∧ ∀ z t, d.lookup z = some t → ∃ v, L2.KDct K w u z v ∧ ∀ H, Rep K ad H t v []
  cls : ∀ (c : Nat) (x : Str), P.cnm[c]? = some x → ∃ Ca B newId initId bmB, PySem.ExcBaseFacts B newId initId bmB ∧ PySem.W.excIn K Ca bmB newId = true ∧ mg x = some (.ref Ca) ∧ PySem.W.keepIn K (.ref Ca) = true ∧ (PySem.W.subIn K (.ref Ca) (.type "BaseException") = some true ∧ PySem.W.typeIn K (.ref Ca) = some (.type "type")) ∧ (∀ H, xr c [] (.ref Ca) none H) ∧
    ∀ c' fs cl d H, xr c' fs cl d H → PySem.W.exmOne K cl (.ref Ca) = some (G.sub c' c)
section
variable {P : Stx} {G : Pg} {C : Nat → List T → CR} {ad : Nat → Addr} {xr : Nat → List T → Value → Option Addr → Hp → Prop} {k : Nat} {prog : Program} {w : World} {K : PySem.W.Frag} {mg : Str → Option Value} {base : PySem.Heap}
/-- a def of the text whose body is the Mini text keeps its promise -/
theorem fn_ok {x qual : Str} {st : Stmt} {f : Addr} {fd : FuncData} {ps : List Str} {F : Fn} {A : List Nat} (g : GOk P G C ad xr k prog w K mg base) (D : L2.Fun K x qual st f fd) (S : L2.FnScope P.N ps (L2.defScope st))
    (hmd : F.md.length = ps.length) (hns : F.ns = P.N.length) (hA : ∀ i, F.md[i]? = some .io → i ∉ A) (hc : chkSs P A (L2.defScope st) F.body (L2.defBody st) = true) : FnOk prog w K mg base (L2.CX prog w) (k + 1) f fd ps (spOf K ad xr F.md (runFn G C F)) := by
  have hpl : ps.length ≤ P.N.length := by have := congrArg List.length S.pre; rw [List.length_take] at this; omega
  refine D.okX S (fun vs H Q E ⟨ts, Sls, a, _⟩ => by rw [a.lv, hmd]) fun cdv Ar outer s H vs Q E hr ⟨ts, Sls, a, h⟩ => ?_
  refine ⟨sR K ad xr (fun cls d _ H' => E cls d H') A (exs G C F.body), ?_, ?_⟩
  · refine chkSs_ok F.body (X := L2.cxOf (L2.CX prog w) prog w K mg base P.N qual (L2.defScope st) f cdv Ar outer s H E) ⟨⟨rfl, S.nd, rfl, hr, L2.takes_of rfl rfl rfl rfl, ⟨fun x h => h, fun x h => ⟨h, rfl⟩, fun x h => .inr h, fun x h => h⟩, S.kind, g.fns, g.cons, g.blt, fun j x h => by
      obtain ⟨d, u, h1, h2, h3⟩ := g.dics j x h
      exact ⟨d, u, h1, h2, ⟨h3⟩⟩⟩, L2.passes_of rfl, rfl, rfl, rfl, fun c x hx => ?_⟩ _ hc
    obtain ⟨Ca, B, ni, ii, bm, m1, m2, m3, m4, m5, m6, m7⟩ := g.cls c x hx
    exact ⟨Ca, B, ni, ii, bm, m1, m2, m3, m4, L2.raises_own m5.1 m5.2, m6, m7⟩
  · refine ⟨enter F.md ts P.N.length, _, rel_start a (by rw [hmd]; exact hpl), ?_⟩
    refine leave_ok a (by rw [hmd]; exact hpl) hA ?_
    unfold runFn at h
    rw [if_pos a.lt, hns] at h
    exact h
end
end M
end

section
set_option Elab.async false
set_option autoImplicit false
set_option linter.all false
set_option maxRecDepth 100000
set_option maxHeartbeats 4000000
/-! SoundX: all defs of a text; a law's end. -/
namespace M
open PySem (Addr Str PyData Operator CmpOp UnaryOp Value Expr Stmt Scope NameKind ExceptHandler FuncData Program World)
open L2 (V Hp HO SqT SqL Rd upd upd_same upd_ne St VK XK WX TE TT TA TG TGs TI TS It R2 OpR UnR CallR Dp DpAll rI0 rI Cx Room TruV PE PT PW PA PG PGs PI PTs PS PSs PMk Ends Inv Vis Loc Gl Takes Sp FnOk Binds)
/-- a text: what its defs, constants and classes are called -/
structure Tx where
  fnm : List Str
  knm : List Str
  cnm : List Str
  dnm : List Str
/-- a def as it stands in the text: its names, its parameters, the slots it sets, its Mini text -/
structure Df where
  N : List Str
  ps : List Str
  A : List Nat
  F : Fn
  st : Stmt
def Tx.stx (t : Tx) (N : List Str) : Stx := ⟨⟨N, t.fnm, t.knm, t.dnm⟩, t.cnm⟩
/-- what is checked of a def -/
def scC (N ps : List Str) (sc : Scope) : Bool := (match sc.kind with | .function => true | _ => false) && !sc.isCoroutine && !sc.isGenerator && decide N.Nodup && decide (N.take ps.length = ps) && (ps.all fun x => decide (sc.names.lookup x = some .local) || decide (sc.names.lookup x = some .cell)) && sc.names.all fun y => decide (y.2 ≠ .free)
theorem scC_ok {N ps : List Str} {sc : Scope} (h : scC N ps sc = true) : L2.FnScope N ps sc := by
  simp only [scC, Bool.and_eq_true, Bool.not_eq_true', decide_eq_true_eq, List.all_eq_true, Bool.or_eq_true] at h
  obtain ⟨⟨⟨⟨⟨⟨h1, h2⟩, h3⟩, h4⟩, h5⟩, h6⟩, h7⟩ := h
  refine ⟨?_, h2, h3, h4, h5, h6, h7⟩
  split at h1
  · assumption
  · cases h1
def Df.ok (Tt : Tx) (d : Df) : Bool := scC d.N d.ps (L2.defScope d.st) && decide (d.F.md.length = d.ps.length) && decide (d.F.ns = d.N.length) && (d.A.all fun i => decide (d.F.md[i]? ≠ some .io)) && chkSs (Tt.stx d.N) d.A (L2.defScope d.st) d.F.body (L2.defBody d.st)
/-- what stands behind the top of the text -/
structure Wk (Tt : Tx) (G : Pg) (ds : List Df) (ad : Nat → Addr) (xr : Nat → List T → Value → Option Addr → Hp → Prop) (K : PySem.W.Frag) (w : World) (mg : Str → Option Value) : Prop where
  fn : ∀ (f : Nat) (x : Str), Tt.fnm[f]? = some x → ∃ d qual fd, ds[f]? = some d ∧ G.fns[f]? = some d.F ∧ mg x = some (.ref (ad f)) ∧ L2.Fun K x qual d.st (ad f) fd ∧ Binds K fd d.ps []
  cons : ∀ (j : Nat) (x : Str), Tt.knm[j]? = some x → ∃ t u v, G.consts[j]? = some t ∧ mg x = some u ∧ L2.RelV v u ∧ ∀ H, Rep K ad H t v []
  blt : ∀ x ∈ blts, mg x = none
  dics : ∀ (j : Nat) (x : Str), Tt.dnm[j]? = some x → ∃ d u, G.dics[j]? = some d ∧ mg x = some (.ref u) ∧ ∀ z t, d.lookup z = some t → ∃ v, L2.KDct K w u z v ∧ ∀ H, Rep K ad H t v []
  cls : ∀ (c : Nat) (x : Str), Tt.cnm[c]? = some x → ∃ Ca B newId initId bmB, PySem.ExcBaseFacts B newId initId bmB ∧ PySem.W.excIn K Ca bmB newId = true ∧ mg x = some (.ref Ca) ∧ PySem.W.keepIn K (.ref Ca) = true ∧ (PySem.W.subIn K (.ref Ca) (.type "BaseException") = some true ∧ PySem.W.typeIn K (.ref Ca) = some (.type "type")) ∧ (∀ H, xr c [] (.ref Ca) none H) ∧
    ∀ c' fs cl d H, xr c' fs cl d H → PySem.W.exmOne K cl (.ref Ca) = some (G.sub c' c)
theorem call_succ {G : Pg} {n f : Nat} {F : Fn} (h : G.fns[f]? = some F) : call G (n + 1) f = runFn G (fun g us => call G n g us) F := by
  funext ts
  rw [call, h]
theorem prog_ok {Tt : Tx} {G : Pg} {ds : List Df} {ad : Nat → Addr} {xr : Nat → List T → Value → Option Addr → Hp → Prop} {prog : Program} {w : World} {K : PySem.W.Frag} {mg : Str → Option Value} {base : PySem.Heap}
    (W : Wk Tt G ds ad xr K w mg) (hd : ∀ d ∈ ds, d.ok Tt = true) : ∀ (n f : Nat) (x : Str) (d : Df) (qual : Str) (fd : FuncData), ds[f]? = some d → G.fns[f]? = some d.F → L2.Fun K x qual d.st (ad f) fd → FnOk prog w K mg base (L2.CX prog w) n (ad f) fd d.ps (spOf K ad xr d.F.md (call G n f))
  | 0, f, x, d, q, fd, h1, h2, h4 => by
    have bad : ∀ vs H Q E, ¬ spOf K ad xr d.F.md (call G 0 f) vs H Q E := fun vs H Q E ⟨ts, Sl, _, z⟩ => z
    exact ⟨fun vs H Q E z => (bad vs H Q E z).elim, fun A o s H a us vs Q E _ _ _ _ z => (bad vs H Q E z).elim⟩
  | n + 1, f, x, d, q, fd, h1, h2, h4 => by
    have ok := hd d (List.mem_of_getElem? h1)
    simp only [Df.ok, Bool.and_eq_true, decide_eq_true_eq, List.all_eq_true] at ok
    obtain ⟨⟨⟨⟨k1, k2⟩, k3⟩, k4⟩, k5⟩ := ok
    have g : GOk (Tt.stx d.N) G (fun g us => call G n g us) ad xr n prog w K mg base := ⟨fun f' x' hx => by
      obtain ⟨d', q', fd', m1, m2, m3, m4, m5⟩ := W.fn f' x' hx
      exact ⟨m3, m4.kp, fd', d'.ps, d'.F, m2, prog_ok W hd n f' x' d' q' fd' m1 m2 m4, m5⟩, W.cons, W.blt, W.dics, W.cls⟩
    rw [call_succ h2]
    exact fn_ok (P := Tt.stx d.N) g h4 (scC_ok k1) k2 k3 (fun i hi hA => k4 i hA hi) k5
/-- the law's own promise: True at a script -/
def spLaw (K : PySem.W.Frag) (n : Nat) : Sp := fun vs H Q _ => ∃ (a : Addr) (ns : List Int), vs = [.ref a] ∧ ns.length ≤ n ∧ L2.Only H ∧ SqL K H a (ns.map V.int) ∧ ∀ H', Q (.bl true) H'
theorem law_imp {G : Pg} {ad : Nat → Addr} {xr : Nat → List T → Value → Option Addr → Hp → Prop} {K : PySem.W.Frag} {f m n : Nat} {F : Fn} (hm : F.md = [.va]) (hl : ∀ ns : List Int, ns.length ≤ m → ∃ o, call G n f [.frz (ns.map .int)] = .ok (.bl true) o []) :
    ∀ vs H Q E, spLaw K m vs H Q E → spOf K ad xr F.md (call G n f) vs H Q E := fun vs H Q E ⟨a, ns, h1, h2, h3, h4, h5⟩ => by
  obtain ⟨o, e⟩ := hl ns h2
  subst h1
  rw [hm]
  refine ⟨[.frz (ns.map .int)], [[]], ⟨rfl, rfl, rfl, fun i t v S ht hv hS => ?_, fun i S hi => ?_⟩, ?_⟩
  · cases i with
    | zero =>
      simp at ht hv hS
      subst ht hv hS
      rw [Rep]
      refine ⟨a, ns.map V.int, rfl, ?_, RepL.ints, rfl⟩
      rcases h4 with (h4 | h4) | h4
      · rcases h3 a with z | ⟨o', xs, z⟩ <;> rw [h4] at z <;> cases z
      · exact .inl h4
      · exact .inr h4
    | succ i => simp at ht
  · cases i <;> simp at hi
  · rw [e]
    intro v H' S Sio _ r _ _ _
    rw [Rep.bl_iff] at r
    rw [r.1]
    exact h5 H'
end M
end

section
set_option Elab.async false
set_option autoImplicit false
set_option linter.all false
set_option maxRecDepth 100000
set_option maxHeartbeats 4000000
/-! SoundZ: the joining: what the top has left, and the law's end. -/
namespace M
open PySem (Addr Str PyData Operator CmpOp UnaryOp Value Expr Stmt Scope NameKind ExceptHandler FuncData Program World)
open L2 (V Hp HO SqT SqL Rd upd upd_same upd_ne St VK XK WX TE TT TA TG TGs TI TS It R2 OpR UnR CallR Dp DpAll rI0 rI Cx Room TruV PE PT PW PA PG PGs PI PTs PS PSs PMk Ends Inv Vis Loc Gl Takes Sp FnOk Binds)
/-! ### constants -/
mutual
def conK (K : PySem.W.Frag) : T → Value → Bool
  | .non, .none => true
  | .bl a, .bool b => a == b
  | .int i, .int j _ => decide (i = j)
  | .str x, .str y _ => decide (x = y)
  | .tup ts, .ref a => (match K.lookup a with
    | some o => decide (o.cls = .type "tuple") && (match o.data with
      | .seq its _ => decide (its.size ≤ PySem.sizeLine) && conKL K ts its.toList
      | _ => false)
    | none => false)
  | _, _ => false
def conKL (K : PySem.W.Frag) : List T → List Value → Bool
  | [], [] => true
  | t :: ts, u :: us => conK K t u && conKL K ts us
  | _, _ => false
end
mutual
theorem conK_ok {K : PySem.W.Frag} {ad : Nat → Addr} : ∀ {t : T} {u : Value}, conK K t u = true → ∃ v, L2.RelV v u ∧ ∀ H, Rep K ad H t v []
  | .non, u, h => by
    cases u <;> simp [conK] at h
    exact ⟨.non, rfl, fun H => by rw [Rep]; exact ⟨rfl, rfl⟩⟩
  | .bl a, u, h => by
    cases u <;> simp [conK] at h
    subst h
    exact ⟨.bl a, rfl, fun H => by rw [Rep]; exact ⟨rfl, rfl⟩⟩
  | .int a, u, h => by
    cases u <;> simp [conK] at h
    subst h
    exact ⟨.int a, ⟨_, rfl⟩, fun H => by rw [Rep]; exact ⟨rfl, rfl⟩⟩
  | .str a, u, h => by
    cases u <;> simp [conK] at h
    subst h
    exact ⟨.str a, ⟨_, rfl⟩, fun H => by rw [Rep]; exact ⟨rfl, rfl⟩⟩
  | .tup ts, u, h => by
    cases u <;> (try (simp [conK] at h; done))
    rename_i a
    rw [conK] at h
    split at h
    · rename_i o ho
      rw [Bool.and_eq_true, decide_eq_true_eq] at h
      obtain ⟨h1, h2⟩ := h
      split at h2
      · rename_i its n hd
        rw [Bool.and_eq_true, decide_eq_true_eq] at h2
        obtain ⟨vs, q1, q2⟩ := conKL_ok (ad := ad) h2.2
        exact ⟨.ref a, rfl, fun H => by rw [Rep]; exact ⟨a, vs, rfl, .inr ⟨o, its, n, ho, h1, hd, h2.1, q1⟩, q2 H⟩⟩
      · cases h2
    · cases h
  | .lst _, u, h => by cases u <;> simp [conK] at h
  | .frz _, u, h => by cases u <;> simp [conK] at h
  | .dic _ _, u, h => by cases u <;> simp [conK] at h
  | .fn _, u, h => by cases u <;> simp [conK] at h
  | .exn _ _, u, h => by cases u <;> simp [conK] at h
theorem conKL_ok {K : PySem.W.Frag} {ad : Nat → Addr} : ∀ {ts : List T} {us : List Value}, conKL K ts us = true → ∃ vs, L2.Vals vs us ∧ ∀ H, RepL K ad H ts vs []
  | [], [], _ => ⟨[], .nil, fun H => RepL.nil⟩
  | [], _ :: _, h => by simp [conKL] at h
  | _ :: _, [], h => by simp [conKL] at h
  | t :: ts, u :: us, h => by
    rw [conKL, Bool.and_eq_true] at h
    obtain ⟨v, h1, h2⟩ := conK_ok (ad := ad) h.1
    obtain ⟨vs, h3, h4⟩ := conKL_ok (ad := ad) h.2
    exact ⟨v :: vs, .cons h1 h3, fun H => RepL.cons (S1 := []) (S2 := []) (h2 H) (h4 H)⟩
end
/-! ### defs -/
/-- how a def takes its arguments -/
def BindsF (x : Str) (d : Df) : Prop := ∀ (kV doc pm : Value) (an : Option Addr) (cdv ct : Value) (us : List Value), us.length = d.ps.length → PySem.bindArgs (PySem.W.fnOf x x (L2.defArgs d.st) (L2.defBody d.st) (L2.defScope d.st) .none kV doc pm an cdv ct) ⟨us, []⟩ = pure (d.ps.zip us)
structure FnF (K : PySem.W.Frag) (x : Str) (d : Df) (f : Addr) : Prop where
  g : PySem.W.nsIn K PySem.mainGlobals x = some (some (.ref f))
  fn : ∃ fd, L2.Fun K x x d.st f fd ∧ Binds K fd d.ps [] ∧ ∀ us : List Value, us.length = d.ps.length → PySem.bindArgs fd ⟨us, []⟩ = pure (d.ps.zip us)
theorem fnf {K : PySem.W.Frag} {x : Str} {d : Df} {f : Addr} {oc : Value} {od an : Option Addr} {osl : Array (Option Value)} {kV doc pm cdv ct : Value} (b : BindsF x d) (g : PySem.W.nsIn K PySem.mainGlobals x = some (some (.ref f))) (l : K.lookup f = some ⟨oc, od, .func (PySem.W.fnOf x x (L2.defArgs d.st) (L2.defBody d.st) (L2.defScope d.st) .none kV doc pm an cdv ct), osl⟩)
    (c : PySem.W.codeIn K cdv x = true) (k : PySem.W.keepIn K (.ref f) = true) : FnF K x d f :=
  ⟨g, _, L2.fun_mk l c k, (L2.fun_mk l c k).binds b, b kV doc pm an cdv ct⟩
inductive Fs (K : PySem.W.Frag) : List Str → List Df → List Addr → Prop
  | nil : Fs K [] [] []
  | cons {x : Str} {d : Df} {f : Addr} {xs : List Str} {ds : List Df} {fs : List Addr} (h : FnF K x d f) (r : Fs K xs ds fs) : Fs K (x :: xs) (d :: ds) (f :: fs)
theorem Fs.get {K : PySem.W.Frag} : ∀ {xs : List Str} {ds : List Df} {fs : List Addr}, Fs K xs ds fs → ∀ (i : Nat) (x : Str), xs[i]? = some x → ∃ d, ds[i]? = some d ∧ FnF K x d (fs.getD i 0)
  | _, _, _, .nil, i, x, h => by simp at h
  | _, _, _, .cons h r, 0, x, e => by
    simp at e
    subst e
    exact ⟨_, rfl, h⟩
  | _, _, _, .cons h r, i + 1, x, e => by
    obtain ⟨d, h1, h2⟩ := r.get i x (by simpa using e)
    exact ⟨d, by simpa using h1, by simpa using h2⟩
inductive Ks (K : PySem.W.Frag) : List Str → List T → Prop
  | nil : Ks K [] []
  | cons {x : Str} {t : T} {u : Value} {xs : List Str} {ts : List T} (g : PySem.W.nsIn K PySem.mainGlobals x = some (some u)) (h : conK K t u = true) (r : Ks K xs ts) : Ks K (x :: xs) (t :: ts)
theorem Ks.get {K : PySem.W.Frag} : ∀ {xs : List Str} {ts : List T}, Ks K xs ts → ∀ (i : Nat) (x : Str), xs[i]? = some x → ∃ t u, ts[i]? = some t ∧ PySem.W.nsIn K PySem.mainGlobals x = some (some u) ∧ conK K t u = true
  | _, _, .nil, i, x, h => by simp at h
  | _, _, .cons g h r, 0, x, e => by
    simp at e
    subst e
    exact ⟨_, _, rfl, g, h⟩
  | _, _, .cons g h r, i + 1, x, e => by
    obtain ⟨t, u, h1, h2, h3⟩ := r.get i x (by simpa using e)
    exact ⟨t, u, by simpa using h1, h2, h3⟩
/-! ### tables -/
def dicC (K : PySem.W.Frag) (u : Addr) (d : List (Str × T)) : Bool := d.all fun p => match PySem.W.nsIn K u p.1 with
  | some (some v) => conK K p.2 v
  | _ => false
structure DcF (K : PySem.W.Frag) (P : PySem.Params) (x : Str) (d : List (Str × T)) (u : Addr) : Prop where
  g : PySem.W.nsIn K PySem.mainGlobals x = some (some (.ref u))
  w : He.dicW K u = some (He.keysIn P (d.map (·.1)))
  c : dicC K u d = true
inductive Dcs (K : PySem.W.Frag) (P : PySem.Params) : List Str → List (List (Str × T)) → Prop
  | nil : Dcs K P [] []
  | cons {x : Str} {d : List (Str × T)} {u : Addr} {xs : List Str} {ds : List (List (Str × T))} (h : DcF K P x d u) (r : Dcs K P xs ds) : Dcs K P (x :: xs) (d :: ds)
theorem Dcs.get {K : PySem.W.Frag} {P : PySem.Params} : ∀ {xs : List Str} {ds : List (List (Str × T))}, Dcs K P xs ds → ∀ (i : Nat) (x : Str), xs[i]? = some x → ∃ d u, ds[i]? = some d ∧ DcF K P x d u
  | _, _, .nil, i, x, h => by simp at h
  | _, _, .cons h r, 0, x, e => by
    simp at e
    subst e
    exact ⟨_, _, rfl, h⟩
  | _, _, .cons h r, i + 1, x, e => by
    obtain ⟨d, u, h1, h2⟩ := r.get i x (by simpa using e)
    exact ⟨d, u, by simpa using h1, h2⟩
theorem lookup_in {z : Str} {t : T} : ∀ {d : List (Str × T)}, d.lookup z = some t → (z, t) ∈ d
  | [], h => by simp at h
  | (y, s) :: d, h => by
    rw [List.lookup_cons] at h
    split at h
    · rename_i e
      have e := beq_iff_eq.mp e
      cases h; subst e
      simp
    · exact List.mem_cons_of_mem _ (lookup_in h)
theorem DcF.at_ {K : PySem.W.Frag} {w : World} {ad : Nat → Addr} {x : Str} {d : List (Str × T)} {u : Addr} (f : DcF K w.params x d u) : ∀ z t, d.lookup z = some t → ∃ v, L2.KDct K w u z v ∧ ∀ H, Rep K ad H t v [] := fun z t h => by
  obtain ⟨es, n, kd⟩ := He.dicW_ok f.w
  have c := List.all_eq_true.mp f.c (z, t) (lookup_in h)
  simp only at c
  split at c
  · rename_i v hv
    obtain ⟨y, h1, h2⟩ := conK_ok (ad := ad) c
    exact ⟨y, ⟨es, n, v, kd.at_, kd.lit, hv, h1⟩, h2⟩
  · cases c
/-! ### classes: below ValueError, without own __init__ -/
abbrev veMro : List Value := [.type "ValueError", .type "Exception", .type "BaseException", .type "object"]
structure ClF (K : PySem.W.Frag) (x : Str) (C : Addr) : Prop where
  g : PySem.W.nsIn K PySem.mainGlobals x = some (some (.ref C))
  e : PySem.W.excIn K C veMro "ValueError.__new__" = true
  k : PySem.W.keepIn K (.ref C) = true
  s : PySem.W.subIn K (.ref C) (.type "BaseException") = some true
  t : PySem.W.typeIn K (.ref C) = some (.type "type")
  i : PySem.W.isClsIn K C = true
inductive Cs (K : PySem.W.Frag) : List Str → List Addr → Prop
  | nil : Cs K [] []
  | cons {x : Str} {C : Addr} {xs : List Str} {cs : List Addr} (h : ClF K x C) (r : Cs K xs cs) : Cs K (x :: xs) (C :: cs)
theorem Cs.get {K : PySem.W.Frag} : ∀ {xs : List Str} {cs : List Addr}, Cs K xs cs → ∀ (i : Nat) (x : Str), xs[i]? = some x → ∃ C, cs[i]? = some C ∧ ClF K x C
  | _, _, .nil, i, x, h => by simp at h
  | _, _, .cons h r, 0, x, e => by
    simp at e
    subst e
    exact ⟨_, rfl, h⟩
  | _, _, .cons h r, i + 1, x, e => by
    obtain ⟨C, h1, h2⟩ := r.get i x (by simpa using e)
    exact ⟨C, by simpa using h1, h2⟩
/-- an exception: its class -/
def xrOf (cs : List Addr) : Nat → List T → Value → Option Addr → Hp → Prop := fun c fs cls d _ => fs = [] ∧ d = none ∧ ∃ C, cs[c]? = some C ∧ cls = .ref C
/-- is each class the other one or below it -/
def SubF (K : PySem.W.Frag) (sub : Nat → Nat → Bool) (cs : List Addr) : Prop := ∀ c d C D, cs[c]? = some C → cs[d]? = some D → PySem.W.subIn K (.ref C) (.ref D) = some (sub c d)
theorem exm_of {K : PySem.W.Frag} {x : Str} {C D : Addr} {b : Bool} (f : ClF K x D) (h : PySem.W.subIn K (.ref C) (.ref D) = some b) : PySem.W.exmOne K (.ref C) (.ref D) = some b := by
  have e1 : (PySem.W.subIn K (.ref D) (.type "BaseException") == some true) = true := by rw [f.s]; rfl
  have e2 : ((PySem.W.clsIn K D).isSome && PySem.W.typeIn K (.ref D) == some (.type "type")) = true := by
    have h2' : (PySem.W.clsIn K D).isSome = true := f.i
    rw [h2', f.t]; rfl
  unfold PySem.W.exmOne
  rw [if_pos e1]
  show (if ((PySem.W.clsIn K D).isSome && PySem.W.typeIn K (.ref D) == some (.type "type")) = true then PySem.W.subIn K (.ref C) (.ref D) else none) = some b
  rw [if_pos e2]
  exact h
theorem subF_2 {K : PySem.W.Frag} {sub : Nat → Nat → Bool} {C0 C1 : Addr} (h00 : PySem.W.subIn K (.ref C0) (.ref C0) = some (sub 0 0)) (h01 : PySem.W.subIn K (.ref C0) (.ref C1) = some (sub 0 1)) (h10 : PySem.W.subIn K (.ref C1) (.ref C0) = some (sub 1 0)) (h11 : PySem.W.subIn K (.ref C1) (.ref C1) = some (sub 1 1)) : SubF K sub [C0, C1] := fun c d C D hc hd => by
  match c, d, hc, hd with
  | 0, 0, hc, hd => cases hc; cases hd; exact h00
  | 0, 1, hc, hd => cases hc; cases hd; exact h01
  | 1, 0, hc, hd => cases hc; cases hd; exact h10
  | 1, 1, hc, hd => cases hc; cases hd; exact h11
  | c + 2, _, hc, _ => simp at hc
  | _, d + 2, _, hd => simp at hd
theorem subF_1 {K : PySem.W.Frag} {sub : Nat → Nat → Bool} {C0 : Addr} (h00 : PySem.W.subIn K (.ref C0) (.ref C0) = some (sub 0 0)) : SubF K sub [C0] := fun c d C D hc hd => by
  match c, d, hc, hd with
  | 0, 0, hc, hd => cases hc; cases hd; exact h00
  | c + 1, _, hc, _ => simp at hc
  | _, d + 1, _, hd => simp at hd
/-- names that are nobody's -/
inductive Bl (K : PySem.W.Frag) : List Str → Prop
  | nil : Bl K []
  | cons {x : Str} {xs : List Str} (h : PySem.W.nsIn K PySem.mainGlobals x = some none) (r : Bl K xs) : Bl K (x :: xs)
theorem Bl.get {K : PySem.W.Frag} : ∀ {xs : List Str}, Bl K xs → ∀ x ∈ xs, PySem.W.nsIn K PySem.mainGlobals x = some none
  | _, .nil, x, h => by cases h
  | _, .cons h r, x, hx => by
    rcases List.mem_cons.mp hx with e | e
    · subst e; exact h
    · exact r.get x e
/-- a law row, from what the top has left -/
theorem walk_M {l : PySem.W.OpenLaw} {q : Program} {loose : List Str} {XP : (Str → Option Value) → PySem.Heap → Prop} {YP : World → PySem.Heap → Prop} {d : PySem.DefRec} {K : PySem.Params → PySem.W.Frag} (n : Nat) (hn : l.most = some 63) (hdf : d.params.defaults = []) (hr : Room n PySem.callerA)
    (hY : ∀ (w : World) (h : PySem.Heap), YP w h → (K w.params).In h)
    (F : ∀ (w : World) (mg : Str → Option Value) (fa : Addr) (h : PySem.Heap), (K w.params).In h → h.Ns PySem.mainGlobals mg → mg d.name = some (.ref fa) →
      ∃ fd : FuncData, (∀ (s : PySem.Shared) (u : Value), PySem.BindsTo s fd ⟨[u], []⟩ ([("script", u)] : List (Str × Value))) ∧ ∀ base : PySem.Heap, (K w.params).In base → base.Ns PySem.mainGlobals mg → FnOk l.prog w (K w.params) mg base (L2.CX l.prog w) n fa fd (["script"] : List Str) (spLaw (K w.params) 63)) :
    PySem.W.WalkO q loose XP YP l.row.toRowW d [] (fun f vs => PySem.call f vs) :=
  L2.walk_of (n := 63) (k := n) (x := "script") (CX := fun w => L2.CX l.prog w) (sp := fun w => spLaw (K w.params) 63) hn (by decide) hdf hr hY F (fun w H a ns hl hO hS => ⟨a, ns, rfl, hl, hO, hS, fun _ => rfl⟩) fun w H s e s' z => by
    obtain ⟨_, _, _, _, _, _, _, _, _, _, _, _, z⟩ := z
    exact z
/-- the promise of the law's def, from what the top has left -/
theorem all_mk {prog : Program} {w : World} {K : PySem.W.Frag} {h : PySem.Heap} {mg : Str → Option Value} {fa : Addr} {Tt : Tx} {G : Pg} {ds : List Df} {n : Nat} (f : Nat) (X : K.In h) (Gn : h.Ns PySem.mainGlobals mg) (hfa : mg "law" = some (.ref fa))
    {fs cs : List Addr} (hF : Fs K Tt.fnm ds fs) (hK : Ks K Tt.knm G.consts) (hC : Cs K Tt.cnm cs) (hS : SubF K G.sub cs) (hB : ∀ x ∈ blts, PySem.W.nsIn K PySem.mainGlobals x = some none) (hDc : Dcs K w.params Tt.dnm G.dics)
    (hG : ds.map (·.F) = G.fns) (hd : ∀ d ∈ ds, d.ok Tt = true) (hl : Tt.fnm[f]? = some "law") {d : Df} (hdl : ds[f]? = some d) (hps : d.ps = (["script"] : List Str)) (hmd : d.F.md = [.va])
    (law : ∀ ns : List Int, ns.length ≤ 63 → ∃ o, call G n f [.frz (ns.map .int)] = .ok (.bl true) o []) :
    ∃ fd : FuncData, (∀ (s : PySem.Shared) (u : Value), PySem.BindsTo s fd ⟨[u], []⟩ ([("script", u)] : List (Str × Value))) ∧ ∀ base : PySem.Heap, K.In base → base.Ns PySem.mainGlobals mg → FnOk prog w K mg base (L2.CX prog w) n fa fd (["script"] : List Str) (spLaw K 63) := by
  have W : Wk Tt G ds (fun i => fs.getD i 0) (xrOf cs) K w mg := ⟨fun i x hx => by
    obtain ⟨d', h1, h2⟩ := hF.get i x hx
    obtain ⟨fd, q1, q2, _⟩ := h2.fn
    refine ⟨d', x, fd, h1, ?_, PySem.W.mg_of X Gn h2.g, q1, q2⟩
    rw [← hG, List.getElem?_map, h1]; rfl, fun j x hx => by
    obtain ⟨t, u, h1, h2, h3⟩ := hK.get j x hx
    obtain ⟨v, h4, h5⟩ := conK_ok (ad := fun i => fs.getD i 0) h3
    exact ⟨t, u, v, h1, PySem.W.mg_of X Gn h2, h4, h5⟩, fun x hx => PySem.W.mg_none_of X Gn (hB x hx), fun j x hx => by
    obtain ⟨d, u, h1, h2⟩ := hDc.get j x hx
    exact ⟨d, u, h1, PySem.W.mg_of X Gn h2.g, h2.at_⟩, fun c x hx => by
    obtain ⟨C, h1, h2⟩ := hC.get c x hx
    refine ⟨C, _, _, _, _, PySem.F.excBase_ValueError, h2.e, PySem.W.mg_of X Gn h2.g, h2.k, ⟨h2.s, h2.t⟩, fun H => ⟨rfl, rfl, C, h1, rfl⟩, fun c' fs' cl d' H ⟨_, _, C', q1, q2⟩ => ?_⟩
    subst q2
    exact exm_of h2 (hS c' c C' C q1 h1)⟩
  obtain ⟨d', h1, h3⟩ := hF.get f "law" hl
  rw [hdl] at h1
  cases h1
  obtain ⟨fd, h4, h5, h6⟩ := h3.fn
  have h2 : G.fns[f]? = some d.F := by rw [← hG, List.getElem?_map, hdl]; rfl
  have e := hfa.symm.trans (PySem.W.mg_of X Gn h3.g)
  have efa : fa = fs.getD f 0 := by cases e; rfl
  subst efa
  refine ⟨fd, fun s u => ?_, fun base bK bN => ?_⟩
  · have b := h6 [u] (by rw [hps]; rfl)
    rw [hps] at b
    exact .of_eq b
  · have F := prog_ok (prog := prog) (w := w) (base := base) W hd n f "law" d "law" fd hdl h2 h4
    rw [hps] at F
    exact F.imp (law_imp hmd law)
end M
end

section
set_option Elab.async false
set_option autoImplicit false
set_option linter.all false
set_option maxRecDepth 100000
set_option maxHeartbeats 2000000
/-! Draw: the draws of every law. -/
namespace M
/-- what is drawn from: the script's numbers, the place, what is left, the seed -/
def DrT (cells : List Int) (i r s : Int) : T := .lst [.lst (cells.map .int), .int i, .int r, .int s]
def takeF : Fn := ⟨[.io, .va], 3,
  [.iff (.op2 .eq (.op2 .idx (.brw 0) (.con (.int 2))) (.con (.int 0)))
     [.stI 0 [] (.con (.int 1)) (.op2 .add (.op2 .idx (.brw 0) (.con (.int 1))) (.con (.int 1))),
      .iff (.op2 .lt (.op2 .idx (.brw 0) (.con (.int 1))) (.op2 .lenAt (.brw 0) (.con (.int 0))))
        [.stI 0 [] (.con (.int 2)) (.op3 .idx2 (.brw 0) (.con (.int 0)) (.op2 .idx (.brw 0) (.con (.int 1))))]
        [],
      .iff (.op2 .eq (.op2 .idx (.brw 0) (.con (.int 2))) (.con (.int 0)))
        [.stI 0 [] (.con (.int 3)) (.op2 .mod (.op1 .int (.op2 .add (.op2 .mul (.op2 .idx (.brw 0) (.con (.int 3))) (.con (.int 48271))) (.con (.int 11)))) (.con (.int 2147483647))),
         .stI 0 [] (.con (.int 2)) (.op2 .idx (.brw 0) (.con (.int 3)))]
        []]
     [],
   .set 2 (.op2 .mod (.op1 .int (.op2 .idx (.brw 0) (.con (.int 2)))) (.var 1)),
   .stI 0 [] (.con (.int 2)) (.op2 .fdiv (.op2 .idx (.brw 0) (.con (.int 2))) (.var 1)),
   .ret (.var 2)]⟩
section
variable {G : Pg} {C : Nat → List T → CR}
/-- the state within -/
def st3 (cells : List Int) (i r s m : Int) (x : Option (T × Ow)) : Sl := [some (DrT cells i r s, .ow), some (.int m, .sh), x]
theorem g1 {cells : List Int} {i r s m : Int} {x} : ev G C (.op2 .idx (.brw 0) (.con (.int 1))) (st3 cells i r s m x) = .ok (.int i, true) (st3 cells i r s m x) := by
  simp [ev, ag, E.asBrw, st3, rd, Rv.bind, fin2, Ag.get, Ag.isB, O2.rk, o2, idxT, ixN, DrT, fin, Rk.own, T.lf]
theorem g2 {cells : List Int} {i r s m : Int} {x} : ev G C (.op2 .idx (.brw 0) (.con (.int 2))) (st3 cells i r s m x) = .ok (.int r, true) (st3 cells i r s m x) := by
  simp [ev, ag, E.asBrw, st3, rd, Rv.bind, fin2, Ag.get, Ag.isB, O2.rk, o2, idxT, ixN, DrT, fin, Rk.own, T.lf]
theorem g3 {cells : List Int} {i r s m : Int} {x} : ev G C (.op2 .idx (.brw 0) (.con (.int 3))) (st3 cells i r s m x) = .ok (.int s, true) (st3 cells i r s m x) := by
  simp [ev, ag, E.asBrw, st3, rd, Rv.bind, fin2, Ag.get, Ag.isB, O2.rk, o2, idxT, ixN, DrT, fin, Rk.own, T.lf]
theorem set1 {cells : List Int} {i r s m v : Int} {x} {e : E} (he : ev G C e (st3 cells i r s m x) = .ok (.int v, true) (st3 cells i r s m x)) : ex1 G C (.stI 0 [] (.con (.int 1)) e) (st3 cells i r s m x) = .nx (st3 cells v r s m x) := by
  rw [ex1, he]
  simp [Rv.fl, ev, evs, st3, rd, stR, stL, ixN, DrT, put]
theorem set2 {cells : List Int} {i r s m v : Int} {x} {e : E} (he : ev G C e (st3 cells i r s m x) = .ok (.int v, true) (st3 cells i r s m x)) : ex1 G C (.stI 0 [] (.con (.int 2)) e) (st3 cells i r s m x) = .nx (st3 cells i v s m x) := by
  rw [ex1, he]
  simp [Rv.fl, ev, evs, st3, rd, stR, stL, ixN, DrT, put]
theorem set3 {cells : List Int} {i r s m v : Int} {x} {e : E} (he : ev G C e (st3 cells i r s m x) = .ok (.int v, true) (st3 cells i r s m x)) : ex1 G C (.stI 0 [] (.con (.int 3)) e) (st3 cells i r s m x) = .nx (st3 cells i r v m x) := by
  rw [ex1, he]
  simp [Rv.fl, ev, evs, st3, rd, stR, stL, ixN, DrT, put]
/-- two ints -/
theorem two {s : Sl} {o : O2} {a b : E} {i j : Int} {z : T} {w1 w2 : Bool} (ha : a.asBrw = none) (hb : b.asBrw = none) (h1 : ev G C a s = .ok (.int i, w1) s) (h2 : ev G C b s = .ok (.int j, w2) s) (h : o2 o (.int i) (.int j) = some z) (hk : o.rk.own z = true) : ev G C (.op2 o a b) s = .ok (z, true) s := by
  rw [ev]
  unfold ag
  rw [ha, h1]
  simp only [Rv.bind]
  rw [hb, h2]
  simp only [Rv.bind, fin2, Ag.get, h, Ag.isB, Bool.or_self, fin, Bool.false_eq_true, if_false, hk]
theorem conI {s : Sl} {k : Int} : ev G C (.con (.int k)) s = .ok (.int k, true) s := by rw [ev]
theorem intE {s : Sl} {a : E} {i : Int} {w : Bool} (ha : a.asBrw = none) (h1 : ev G C a s = .ok (.int i, w) s) : ev G C (.op1 .int a) s = .ok (.int i, true) s := by
  rw [ev]
  unfold ag
  rw [ha, h1]
  simp [Rv.bind, fin1, Ag.get, o1, intT, Ag.isB, fin, O1.rk, Rk.own]
theorem g4 {cells : List Int} {i r s m : Int} {x} : ev G C (.op2 .lenAt (.brw 0) (.con (.int 0))) (st3 cells i r s m x) = .ok (.int cells.length, true) (st3 cells i r s m x) := by
  simp [ev, ag, E.asBrw, st3, rd, Rv.bind, fin2, Ag.get, Ag.isB, O2.rk, o2, idxT, ixN, DrT, fin, Rk.own, lenT]
theorem g5 {cells : List Int} {i r s m c : Int} {x} (h : ixN cells.length i = some i.toNat) (hc : cells[i.toNat]? = some c) : ev G C (.op3 .idx2 (.brw 0) (.con (.int 0)) (.op2 .idx (.brw 0) (.con (.int 1)))) (st3 cells i r s m x) = .ok (.int c, true) (st3 cells i r s m x) := by
  have e1 : ev G C (.op2 .idx (.brw 0) (.con (.int 1))) (st3 cells i r s m x) = .ok (.int i, true) (st3 cells i r s m x) := g1
  have e0 : idxT (DrT cells i r s) (.int 0) = some (.lst (cells.map .int)) := by simp [idxT, ixN, DrT]
  have e2 : idxT (.lst (cells.map .int)) (.int i) = some (.int c) := by simp [idxT, h, hc]
  rw [ev]
  have h0 : ag (.brw 0) (ev G C (.brw 0) (st3 cells i r s m x)) (st3 cells i r s m x) = .ok (.b 0) (st3 cells i r s m x) := by simp [ag, E.asBrw, st3, rd]
  rw [h0]
  simp only [Rv.bind]
  have h1 : ag (.con (.int 0)) (ev G C (.con (.int 0)) (st3 cells i r s m x)) (st3 cells i r s m x) = .ok (.v (.int 0) true) (st3 cells i r s m x) := by simp [ag, E.asBrw, ev, Rv.bind]
  rw [h1]
  simp only [Rv.bind, Ag.get, O3.pre, if_true]
  have h2 : ag (.op2 .idx (.brw 0) (.con (.int 1))) (ev G C (.op2 .idx (.brw 0) (.con (.int 1))) (st3 cells i r s m x)) (st3 cells i r s m x) = .ok (.v (.int i) true) (st3 cells i r s m x) := by
    unfold ag
    rw [e1]; rfl
  rw [h2]
  have hg : (rd (st3 cells i r s m x) 0).map (·.1) = some (DrT cells i r s) := rfl
  simp only [fin3, Ag.get, hg, o3, e0, Option.bind_some, e2, fin, Ag.isB, Bool.true_or, if_true, O3.rk, Rk.own, T.lf]
/-- a number is drawn -/
theorem take_ok {f n : Nat} (h : G.fns[f]? = some takeF) (cells : List Int) (i r s m : Int) (hi : -1 ≤ i) (hm : 0 < m) (hm2 : m < 1073741824) : ∃ (k i' r' s' : Int), -1 ≤ i' ∧ 0 ≤ k ∧ k < m ∧ call G (n + 1) f [DrT cells i r s, .int m] = .ok (.int k) true [DrT cells i' r' s'] := by
  -- the part ahead of the answer
  have pre : ∃ (i' r' s' : Int), -1 ≤ i' ∧ ∀ C, ex1 G C (.iff (.op2 .eq (.op2 .idx (.brw 0) (.con (.int 2))) (.con (.int 0)))
     [.stI 0 [] (.con (.int 1)) (.op2 .add (.op2 .idx (.brw 0) (.con (.int 1))) (.con (.int 1))),
      .iff (.op2 .lt (.op2 .idx (.brw 0) (.con (.int 1))) (.op2 .lenAt (.brw 0) (.con (.int 0))))
        [.stI 0 [] (.con (.int 2)) (.op3 .idx2 (.brw 0) (.con (.int 0)) (.op2 .idx (.brw 0) (.con (.int 1))))]
        [],
      .iff (.op2 .eq (.op2 .idx (.brw 0) (.con (.int 2))) (.con (.int 0)))
        [.stI 0 [] (.con (.int 3)) (.op2 .mod (.op1 .int (.op2 .add (.op2 .mul (.op2 .idx (.brw 0) (.con (.int 3))) (.con (.int 48271))) (.con (.int 11)))) (.con (.int 2147483647))),
         .stI 0 [] (.con (.int 2)) (.op2 .idx (.brw 0) (.con (.int 3)))]
        []]
     []) (st3 cells i r s m none) = .nx (st3 cells i' r' s' m none) := by
    -- behind the place's step
    have last : ∀ (i r s : Int), -1 ≤ i → ∃ (r' s' : Int), ∀ C, ex1 G C (.iff (.op2 .eq (.op2 .idx (.brw 0) (.con (.int 2))) (.con (.int 0)))
        [.stI 0 [] (.con (.int 3)) (.op2 .mod (.op1 .int (.op2 .add (.op2 .mul (.op2 .idx (.brw 0) (.con (.int 3))) (.con (.int 48271))) (.con (.int 11)))) (.con (.int 2147483647))),
         .stI 0 [] (.con (.int 2)) (.op2 .idx (.brw 0) (.con (.int 3)))]
        []) (st3 cells i r s m none) = .nx (st3 cells i r' s' m none) := fun i r s _ => by
      by_cases e : r = 0
      · refine ⟨(s * 48271 + 11).fmod 2147483647, (s * 48271 + 11).fmod 2147483647, fun C => ?_⟩
        rw [ex1, two rfl rfl g2 conI (z := .bl true) (by simp [o2, eqT, T.pd, T.eq, e]) rfl]
        simp only [Rv.fl, T.tr]
        rw [exs, set3 (v := (s * 48271 + 11).fmod 2147483647) (two rfl rfl (intE rfl (two rfl rfl (two rfl rfl g3 conI (z := .int (s * 48271)) (by simp [o2, mulT, mulOk]) rfl) conI (z := .int (s * 48271 + 11)) rfl rfl)) conI (z := .int ((s * 48271 + 11).fmod 2147483647)) (by simp [o2]) rfl)]
        simp only
        rw [exs, set2 (v := (s * 48271 + 11).fmod 2147483647) g3]
        simp only
        rw [exs]
      · refine ⟨r, s, fun C => ?_⟩
        rw [ex1, two rfl rfl g2 conI (z := .bl false) (by simp [o2, eqT, T.pd, T.eq, e]) rfl]
        simp only [Rv.fl, T.tr]
        rw [exs]
    by_cases e : r = 0
    · by_cases e2 : i + 1 < cells.length
      · have hlt : (i + 1).toNat < cells.length := by omega
        obtain ⟨r', s', hl⟩ := last (i + 1) (cells[(i + 1).toNat]) s (by omega)
        refine ⟨i + 1, r', s', by omega, fun C => ?_⟩
        rw [ex1, two rfl rfl g2 conI (z := .bl true) (by simp [o2, eqT, T.pd, T.eq, e]) rfl]
        simp only [Rv.fl, T.tr]
        rw [exs, set1 (v := i + 1) (two rfl rfl g1 conI rfl rfl)]
        simp only
        rw [exs, ex1, two rfl rfl g1 g4 (z := .bl true) (by simp [o2, e2]) rfl]
        simp only [Rv.fl, T.tr]
        rw [exs, set2 (g5 (c := cells[(i + 1).toNat]) (by unfold ixN; rw [if_pos (by omega), if_pos e2]) (List.getElem?_eq_getElem hlt))]
        simp only
        rw [exs]
        simp only
        rw [exs, hl]
        simp only
        rw [exs]
      · obtain ⟨r', s', hl⟩ := last (i + 1) r s (by omega)
        refine ⟨i + 1, r', s', by omega, fun C => ?_⟩
        rw [ex1, two rfl rfl g2 conI (z := .bl true) (by simp [o2, eqT, T.pd, T.eq, e]) rfl]
        simp only [Rv.fl, T.tr]
        rw [exs, set1 (v := i + 1) (two rfl rfl g1 conI rfl rfl)]
        simp only
        rw [exs, ex1, two rfl rfl g1 g4 (z := .bl false) (by simp [o2, e2]) rfl]
        simp only [Rv.fl, T.tr]
        rw [exs]
        simp only
        rw [exs, hl]
        simp only
        rw [exs]
    · refine ⟨i, r, s, hi, fun C => ?_⟩
      rw [ex1, two rfl rfl g2 conI (z := .bl false) (by simp [o2, eqT, T.pd, T.eq, e]) rfl]
      simp only [Rv.fl, T.tr]
      rw [exs]
  obtain ⟨i', r', s', hi', hp⟩ := pre
  refine ⟨r'.fmod m, i', r'.fdiv m, s', hi', Int.fmod_nonneg_of_pos _ hm, Int.fmod_lt_of_pos _ hm, ?_⟩
  rw [call, h]
  simp only [runFn, takeF, List.length_cons, List.length_nil, if_true]
  have e0 : enter [.io, .va] [DrT cells i r s, .int m] 3 = st3 cells i r s m none := rfl
  rw [e0, exs, hp]
  simp only
  have gm : ∀ C x, ev G C (.var 1) (st3 cells i' r' s' m x) = .ok (.int m, true) (st3 cells i' r' s' m x) := fun C x => by simp [ev, st3, rd, T.lf]
  have e1 : ∀ C, ex1 G C (.set 2 (.op2 .mod (.op1 .int (.op2 .idx (.brw 0) (.con (.int 2)))) (.var 1))) (st3 cells i' r' s' m none) = .nx (st3 cells i' r' s' m (some (.int (r'.fmod m), .sh))) := fun C => by
    rw [ex1, two rfl rfl (intE rfl g2) (gm C none) (z := .int (r'.fmod m)) (by simp [o2]; omega) rfl]
    simp [Rv.fl, put, st3]
  rw [exs, e1]
  simp only
  rw [exs, set2 (v := r'.fdiv m) (two rfl rfl g2 (gm _ _) (z := .int (r'.fdiv m)) (by simp only [o2]; rw [if_pos (by omega)]) rfl)]
  simp only
  rw [exs, ex1]
  simp [ev, st3, rd, Rv.fl, T.lf, leave, outIo]
def drawF : Fn := ⟨[.va], 3,
  [.set 1 (.con (.int 7)),
   .fr (.nm 2) (.var 0)
     [.set 1 (.op2 .mod (.op1 .int (.op2 .add (.op2 .add (.op2 .mul (.var 1) (.con (.int 48271))) (.op2 .mod (.op1 .abs (.op1 .int (.var 2))) (.con (.int 65521)))) (.con (.int 1)))) (.con (.int 2147483647)))],
   .ret (.lst [(.lc (.nm 2) (.var 0) [] (.op1 .abs (.op1 .int (.var 2))) [2]), (.op1 .neg (.con (.int 1))), (.con (.int 0)), (.var 1)])]⟩
def absI (i : Int) : Int := if i < 0 then -i else i
theorem absE {s : Sl} {a : E} {i : Int} {w : Bool} (ha : a.asBrw = none) (h1 : ev G C a s = .ok (.int i, w) s) : ev G C (.op1 .abs a) s = .ok (.int (absI i), true) s := by
  rw [ev]
  unfold ag
  rw [ha, h1]
  simp [Rv.bind, fin1, Ag.get, o1, Ag.isB, fin, O1.rk, Rk.own, absI]
theorem varI {s : Sl} {i : Nat} {k : Int} (h : rd s i = some (.int k, .sh)) : ev G C (.var i) s = .ok (.int k, true) s := by
  rw [ev, h]; rfl
theorem seed_go (F : T) : ∀ (xs : List Int) (seed : Int) (x : Option (T × Ow)), (x = none ∨ ∃ t, x = some (t, .sh)) → ∃ (seed' : Int) (y : Option (T × Ow)), (y = none ∨ ∃ t, y = some (t, .sh)) ∧ forGo (.nm 2) none (fun s3 => exs G C [.set 1 (.op2 .mod (.op1 .int (.op2 .add (.op2 .add (.op2 .mul (.var 1) (.con (.int 48271))) (.op2 .mod (.op1 .abs (.op1 .int (.var 2))) (.con (.int 65521)))) (.con (.int 1)))) (.con (.int 2147483647)))] s3)
    (xs.map .int) [some (F, .sh), some (.int seed, .sh), x] = .nx [some (F, .sh), some (.int seed', .sh), y]
  | [], seed, x, hx => ⟨seed, x, hx, rfl⟩
  | c :: xs, seed, x, hx => by
    obtain ⟨seed', y, hy, h⟩ := seed_go F xs ((seed * 48271 + (absI c).fmod 65521 + 1).fmod 2147483647) (some (.int c, .sh)) (.inr ⟨_, rfl⟩)
    refine ⟨seed', y, hy, ?_⟩
    rw [List.map_cons, forGo]
    have e : putTg (.nm 2) (.int c) [some (F, .sh), some (.int seed, .sh), x] = some [some (F, .sh), some (.int seed, .sh), some (.int c, .sh)] := rfl
    rw [e]
    simp only
    have v1 : ∀ C, ev G C (.var 1) [some (F, .sh), some (.int seed, .sh), some (.int c, .sh)] = .ok (.int seed, true) [some (F, .sh), some (.int seed, .sh), some (.int c, .sh)] := fun C => varI rfl
    have v2 : ∀ C, ev G C (.var 2) [some (F, .sh), some (.int seed, .sh), some (.int c, .sh)] = .ok (.int c, true) [some (F, .sh), some (.int seed, .sh), some (.int c, .sh)] := fun C => varI rfl
    have b : exs G C [.set 1 (.op2 .mod (.op1 .int (.op2 .add (.op2 .add (.op2 .mul (.var 1) (.con (.int 48271))) (.op2 .mod (.op1 .abs (.op1 .int (.var 2))) (.con (.int 65521)))) (.con (.int 1)))) (.con (.int 2147483647)))] [some (F, .sh), some (.int seed, .sh), some (.int c, .sh)] = .nx [some (F, .sh), some (.int ((seed * 48271 + (absI c).fmod 65521 + 1).fmod 2147483647), .sh), some (.int c, .sh)] := by
      rw [exs, ex1, two rfl rfl (intE rfl (two rfl rfl (two rfl rfl (two rfl rfl (v1 C) conI (z := .int (seed * 48271)) (by simp [o2, mulT, mulOk]) rfl) (two rfl rfl (absE rfl (intE rfl (v2 C))) conI (z := .int ((absI c).fmod 65521)) (by simp [o2]) rfl) (z := .int (seed * 48271 + (absI c).fmod 65521)) rfl rfl) conI (z := .int (seed * 48271 + (absI c).fmod 65521 + 1)) rfl rfl)) conI (z := .int ((seed * 48271 + (absI c).fmod 65521 + 1).fmod 2147483647)) (by simp [o2]) rfl]
      rfl
    rw [b]
    exact h
theorem cells_go (F : T) (seed : Int) : ∀ (xs : List Int) (x : Option (T × Ow)), ∃ y, lcGo [2] (.nm 2) (fun s3 => evc G C [] s3 fun s4 => (ev G C (.op1 .abs (.op1 .int (.var 2))) s4).bind fun y s5 => .ok [y] s5) (xs.map .int) [some (F, .sh), some (.int seed, .sh), x] = .ok (xs.map fun i => (.int (absI i), true)) [some (F, .sh), some (.int seed, .sh), y]
  | [], x => ⟨x, rfl⟩
  | c :: xs, x => by
    obtain ⟨y, h⟩ := cells_go F seed xs (some (.int c, .sh))
    refine ⟨y, ?_⟩
    rw [List.map_cons, lcGo]
    have e : putTg (.nm 2) (.int c) (wipe [some (F, .sh), some (.int seed, .sh), x] [2]) = some [some (F, .sh), some (.int seed, .sh), some (.int c, .sh)] := rfl
    rw [e]
    simp only [evc]
    have v2 : ∀ C, ev G C (.var 2) [some (F, .sh), some (.int seed, .sh), some (.int c, .sh)] = .ok (.int c, true) [some (F, .sh), some (.int seed, .sh), some (.int c, .sh)] := fun C => varI rfl
    rw [absE rfl (intE rfl (v2 C))]
    simp only [Rv.bind]
    simp only [evc] at h
    rw [show (fun s3 => (ev G C (.op1 .abs (.op1 .int (.var 2))) s3).bind fun y s5 => Rv.ok [y] s5) = fun s4 => (ev G C (.op1 .abs (.op1 .int (.var 2))) s4).bind fun y s5 => Rv.ok [y] s5 from rfl] at h
    unfold Rv.bind at h
    rw [h]
    rfl
theorem draw_ok {f n : Nat} (h : G.fns[f]? = some drawF) (ns : List Int) (hl : ns.length ≤ 63) : ∃ s, call G (n + 1) f [.frz (ns.map .int)] = .ok (DrT (ns.map absI) (-1) 0 s) true [] := by
  obtain ⟨seed, y, hy, hs⟩ := seed_go (G := G) (C := fun g us => call G n g us) (.frz (ns.map .int)) ns 7 none (.inl rfl)
  refine ⟨seed, ?_⟩
  rw [call, h]
  simp only [runFn, drawF, List.length_cons, List.length_nil, if_true]
  have e0 : enter [.va] [.frz (ns.map .int)] 3 = [some (.frz (ns.map .int), .sh), none, none] := rfl
  rw [e0, exs, ex1, conI]
  simp only [Rv.fl]
  have e1 : put [some (.frz (ns.map .int), .sh), none, none] 1 (.int 7) .sh = [some (.frz (ns.map .int), .sh), some (.int 7, .sh), none] := rfl
  rw [e1, exs, ex1]
  have e2 : ∀ (C) (a b : Option (T × Ow)), ag (.var 0) (ev G C (.var 0) [some (.frz (ns.map .int), .sh), a, b]) [some (.frz (ns.map .int), .sh), a, b] = .ok (.v (.frz (ns.map .int)) true) [some (.frz (ns.map .int), .sh), a, b] := fun C a b => by simp [ag, E.asBrw, ev, rd, Rv.bind, T.lf]
  rw [e2]
  simp only [Rv.fl, src, T.items, Option.map_some]
  rw [hs]
  simp only
  rw [exs, ex1, ev, evs, ev, e2]
  simp only [Rv.bind, src, T.items, Option.map_some]
  have hm : mayHide [some (.frz (ns.map .int), .sh), some (.int seed, .sh), y] [2] = true := by
    rcases hy with e | ⟨t, e⟩ <;> subst e <;> rfl
  rw [hm]
  simp only [if_true]
  obtain ⟨z, hz⟩ := cells_go (G := G) (C := fun g us => call G n g us) (.frz (ns.map .int)) seed ns none
  have ew : wipe [some (.frz (ns.map .int), .sh), some (.int seed, .sh), y] [2] = [some (.frz (ns.map .int), .sh), some (.int seed, .sh), none] := rfl
  rw [ew]
  unfold Rv.bind at hz
  rw [hz]
  have hle : (ns.map fun i => ((T.int (absI i), true) : T × Bool)).length ≤ LIM := by rw [List.length_map]; unfold LIM; omega
  simp only [lcOut, hle, if_true]
  have eb : unlk (back [some (.frz (ns.map .int), .sh), some (.int seed, .sh), y] [some (.frz (ns.map .int), .sh), some (.int seed, .sh), z] [2]) none = [some (.frz (ns.map .int), .sh), some (.int seed, .sh), y] := rfl
  rw [eb]
  have em : (ns.map fun i => ((T.int (absI i), true) : T × Bool)).map (·.1) = (ns.map absI).map T.int := by rw [List.map_map, List.map_map]; rfl
  have ea : (ns.map fun i => ((T.int (absI i), true) : T × Bool)).all (·.2) = true := by simp
  rw [em, ea, Bool.or_true]
  simp [evs, ev, ag, E.asBrw, Rv.bind, Rv.fl, fin1, Ag.get, o1, Ag.isB, fin, O1.rk, Rk.own, rd, T.lf, LIM, leave, outIo, DrT]
end
end M
end

section
set_option Elab.async false
set_option autoImplicit false
set_option linter.all false
set_option maxRecDepth 100000
set_option maxHeartbeats 2000000
/-! PureLib: loops and comprehensions of Mini as folds and maps. -/
namespace M
theorem wipe_len (s : Sl) : ∀ is : List Nat, (wipe s is).length = s.length
  | [] => rfl
  | i :: is => by rw [wipe, List.length_set, wipe_len]
theorem back_len (s0 s : Sl) : ∀ is : List Nat, (back s0 s is).length = s.length
  | [] => rfl
  | i :: is => by rw [back, List.length_set, back_len]
theorem get_wipeM (s : Sl) : ∀ (is : List Nat) (j : Nat), j ∉ is → (wipe s is)[j]? = s[j]?
  | [], j, _ => rfl
  | i :: is, j, h => by
    rw [List.mem_cons, not_or] at h
    rw [wipe, List.getElem?_set_ne (Ne.symm h.1), get_wipeM s is j h.2]
theorem get_back (s0 s : Sl) (hl : s0.length = s.length) : ∀ (is : List Nat) (j : Nat), (back s0 s is)[j]? = if j ∈ is then s0[j]? else s[j]?
  | [], j => by simp [back]
  | i :: is, j => by
    rw [back]
    by_cases e : j = i
    · subst e
      simp only [List.mem_cons, true_or, if_true]
      by_cases h : j < s.length
      · rw [List.getElem?_set_self (by rw [back_len]; exact h), List.getElem?_eq_getElem (by omega)]; rfl
      · rw [List.getElem?_eq_none (by rw [List.length_set, back_len]; omega), List.getElem?_eq_none (by omega)]
    · rw [List.getElem?_set_ne (Ne.symm e), get_back s0 s hl is j]
      simp [e]
/-- what a comprehension leaves as it was -/
theorem back_same {s0 s : Sl} {is : List Nat} (h : wipe s is = wipe s0 is) : back s0 s is = s0 := by
  have hl : s.length = s0.length := by rw [← wipe_len s is, h, wipe_len]
  refine List.ext_getElem? fun j => ?_
  rw [get_back s0 s hl.symm]
  by_cases e : j ∈ is
  · rw [if_pos e]
  · rw [if_neg e, ← get_wipeM s is j e, h, get_wipeM s0 is j e]
/-- a comprehension whose turns change nothing beyond its own names -/
theorem lcGo_map {own : List Nat} {tg : Tg} {body : Sl → Rv (List (T × Bool))} {s0 : Sl} {g : T → List (T × Bool)} : ∀ (xs : List T) (s : Sl), wipe s own = wipe s0 own →
    (∀ x ∈ xs, ∃ s1 s2, putTg tg x (wipe s0 own) = some s1 ∧ body s1 = .ok (g x) s2 ∧ wipe s2 own = wipe s0 own) → ∃ sE, lcGo own tg body xs s = .ok (xs.flatMap g) sE ∧ wipe sE own = wipe s0 own
  | [], s, h, _ => ⟨s, rfl, h⟩
  | x :: xs, s, h, hb => by
    obtain ⟨s1, s2, e1, e2, e3⟩ := hb x (by simp)
    obtain ⟨sE, q1, q2⟩ := lcGo_map xs s2 e3 fun y hy => hb y (by simp [hy])
    refine ⟨sE, ?_, q2⟩
    rw [lcGo, h, e1]
    simp only [e2, q1, List.flatMap_cons]
section
variable {G : Pg} {C : Nat → List T → CR}
theorem wipe_wipe (s : Sl) (is : List Nat) : wipe (wipe s is) is = wipe s is := by
  have key : ∀ (is : List Nat) (j : Nat) (u : Sl), j ∈ is → (wipe u is)[j]? = if j < u.length then some none else none := fun is => by
    induction is with
    | nil => intro j u hj; cases hj
    | cons i is ih =>
      intro j u hj
      rw [wipe]
      by_cases e : j = i
      · subst e
        by_cases h : j < u.length
        · rw [List.getElem?_set_self (by rw [wipe_len]; exact h), if_pos h]
        · rw [List.getElem?_eq_none (by rw [List.length_set, wipe_len]; omega), if_neg h]
      · rw [List.getElem?_set_ne (Ne.symm e)]
        exact ih j u ((List.mem_cons.mp hj).resolve_left e)
  refine List.ext_getElem? fun j => ?_
  by_cases hj : j ∈ is
  · rw [key is j _ hj, key is j _ hj, wipe_len]
  · rw [get_wipeM _ is j hj]
/-- [elt for t in it if ..], the source a value -/
theorem ev_lc {t : Tg} {it : E} {cs : List E} {elt : E} {own : List Nat} {s s1 : Sl} {a : T} {o : Bool} {xs : List T} {g : T → List (T × Bool)} (h1 : ag it (ev G C it s) s = .ok (.v a o) s1) (h2 : a.items = some xs) (h3 : mayHide s1 own = true)
    (hb : ∀ x ∈ xs, ∃ s2 s3, putTg t x (wipe s1 own) = some s2 ∧ evc G C cs s2 (fun s4 => (ev G C elt s4).bind fun y s5 => .ok [y] s5) = .ok (g x) s3 ∧ wipe s3 own = wipe s1 own) (hl : (xs.flatMap g).length ≤ LIM) :
    ev G C (.lc t it cs elt own) s = .ok (.lst ((xs.flatMap g).map (·.1)), T.lfL ((xs.flatMap g).map (·.1)) || (xs.flatMap g).all (·.2)) s1 := by
  obtain ⟨sE, q1, q2⟩ := lcGo_map (s0 := s1) xs (wipe s1 own) (wipe_wipe s1 own) hb
  rw [ev, h1]
  simp only [Rv.bind, src, h2, Option.map_some]
  rw [if_pos h3]
  have q1' : lcGo own t (fun s3 => evc G C cs s3 fun s4 => (ev G C elt s4).bind fun y s5 => .ok [y] s5) xs (wipe s1 own) = .ok (xs.flatMap g) sE := q1
  unfold Rv.bind at q1'
  rw [q1']
  unfold lcOut
  simp only
  rw [if_pos hl, back_same q2]
  rfl
theorem flat_one {h : T → T × Bool} : ∀ xs : List T, (xs.flatMap fun x => [h x]) = xs.map h
  | [] => rfl
  | x :: xs => by rw [List.flatMap_cons, flat_one xs]; rfl
/-- [elt for t in it] -/
theorem ev_map {t : Tg} {it : E} {elt : E} {own : List Nat} {s s1 : Sl} {a : T} {o : Bool} {xs : List T} {h : T → T × Bool} (h1 : ag it (ev G C it s) s = .ok (.v a o) s1) (h2 : a.items = some xs) (h3 : mayHide s1 own = true)
    (hb : ∀ x ∈ xs, ∃ s2 s3, putTg t x (wipe s1 own) = some s2 ∧ ev G C elt s2 = .ok (h x) s3 ∧ wipe s3 own = wipe s1 own) (hl : xs.length ≤ LIM) :
    ev G C (.lc t it [] elt own) s = .ok (.lst (xs.map fun x => (h x).1), T.lfL (xs.map fun x => (h x).1) || xs.all fun x => (h x).2) s1 := by
  have q := ev_lc (G := G) (C := C) (cs := []) (elt := elt) (g := fun x => [h x]) h1 h2 h3 (fun x hx => by
    obtain ⟨s2, s3, e1, e2, e3⟩ := hb x hx
    refine ⟨s2, s3, e1, ?_, e3⟩
    rw [evc, e2]; rfl) (by rw [flat_one, List.length_map]; exact hl)
  rw [flat_one, List.map_map] at q
  rw [q, List.all_map]
  rfl
end
/-- a for: each turn leads from st a to st (f a x), or ends -/
theorem forGo_fold {α : Type} {tg : Tg} {body : Sl → Fl} (st : α → Sl) (f : α → T → α) : ∀ (xs : List T) (a : α), (∀ (a : α) (x : T), x ∈ xs → ∃ s1, putTg tg x (st a) = some s1 ∧ body s1 = .nx (st (f a x))) → forGo tg none body xs (st a) = .nx (st (xs.foldl f a))
  | [], a, _ => rfl
  | x :: xs, a, h => by
    obtain ⟨s1, e1, e2⟩ := h a x (by simp)
    rw [forGo, e1]
    simp only [e2]
    exact forGo_fold st f xs (f a x) fun a y hy => h a y (by simp [hy])
/-- the first end, or the last state -/
def foldE {α β : Type} (f : α → T → α ⊕ β) : α → List T → α ⊕ β
  | a, [] => .inl a
  | a, x :: xs => match f a x with
    | .inl b => foldE f b xs
    | .inr r => .inr r
theorem forGo_foldE {α β : Type} {tg : Tg} {body : Sl → Fl} (st : α → Sl) (en : β → Fl) (hen : ∀ b s, en b ≠ .nx s) (f : α → T → α ⊕ β) : ∀ (xs : List T) (a : α), (∀ (a : α) (x : T), x ∈ xs → ∃ s1, putTg tg x (st a) = some s1 ∧ body s1 = (match f a x with | .inl b => .nx (st b) | .inr r => en r)) →
    forGo tg none body xs (st a) = (match foldE f a xs with | .inl b => .nx (st b) | .inr r => en r)
  | [], a, _ => rfl
  | x :: xs, a, h => by
    obtain ⟨s1, e1, e2⟩ := h a x (by simp)
    rw [forGo, e1]
    simp only [e2, foldE]
    cases hf : f a x with
    | inl b => exact forGo_foldE st en hen f xs b fun a y hy => h a y (by simp [hy])
    | inr r =>
      simp only
      cases he : en r with
      | nx s => exact absurd he (hen r s)
      | _ => rfl
end M
end

section
set_option Elab.async false
set_option autoImplicit false
set_option linter.all false
set_option maxRecDepth 100000
set_option maxHeartbeats 4000000
/-! PureLib2: calls, comprehensions with a test, any and all, numbers, loops with what holds between turns, a thing equal to itself. -/
namespace M
/-! ### loops with what holds between turns -/
theorem forGo_inv {tg : Tg} {body : Sl → Fl} (I : Sl → Prop) : ∀ (xs : List T) (s : Sl), I s → (∀ s x, I s → x ∈ xs → ∃ s1 s2, putTg tg x s = some s1 ∧ body s1 = .nx s2 ∧ I s2) → ∃ s', forGo tg none body xs s = .nx s' ∧ I s'
  | [], s, h, _ => ⟨s, rfl, h⟩
  | x :: xs, s, h, hb => by
    obtain ⟨s1, s2, e1, e2, e3⟩ := hb s x h (by simp)
    obtain ⟨s', q1, q2⟩ := forGo_inv I xs s2 e3 fun s y hs hy => hb s y hs (by simp [hy])
    refine ⟨s', ?_, q2⟩
    rw [forGo, e1]
    simp only [e2, q1]
/-- .. that knows the turns that are behind -/
theorem forGo_invN {tg : Tg} {body : Sl → Fl} (xs : List T) (I : Nat → Sl → Prop) : ∀ (k : Nat) (s : Sl), k ≤ xs.length → I k s → (∀ j s x, I j s → xs[j]? = some x → ∃ s1 s2, putTg tg x s = some s1 ∧ body s1 = .nx s2 ∧ I (j + 1) s2) → ∃ s', forGo tg none body (xs.drop k) s = .nx s' ∧ I xs.length s' := by
  intro k
  induction hn : xs.length - k generalizing k with
  | zero =>
    intro s hk h hb
    have e : k = xs.length := by omega
    subst e
    rw [List.drop_length]
    exact ⟨s, rfl, h⟩
  | succ m ih =>
    intro s hk h hb
    have hlt : k < xs.length := by omega
    obtain ⟨s1, s2, e1, e2, e3⟩ := hb k s xs[k] h (List.getElem?_eq_getElem hlt)
    obtain ⟨s', q1, q2⟩ := ih (k + 1) (by omega) s2 (by omega) e3 hb
    refine ⟨s', ?_, q2⟩
    rw [List.drop_eq_getElem_cons hlt, forGo, e1]
    simp only [e2, q1]
theorem lcGo_inv {own : List Nat} {tg : Tg} {body : Sl → Rv (List (T × Bool))} (I : Sl → Prop) (Q : T × Bool → Prop) : ∀ (xs : List T) (s : Sl), I s →
    (∀ s x, I s → x ∈ xs → ∃ s1 y s2, putTg tg x (wipe s own) = some s1 ∧ body s1 = .ok [y] s2 ∧ I s2 ∧ Q y) → ∃ ys s', lcGo own tg body xs s = .ok ys s' ∧ I s' ∧ (∀ y ∈ ys, Q y) ∧ ys.length = xs.length
  | [], s, h, _ => ⟨[], s, rfl, h, by simp, rfl⟩
  | x :: xs, s, h, hb => by
    obtain ⟨s1, y, s2, e1, e2, e3, e4⟩ := hb s x h (by simp)
    obtain ⟨ys, s', q1, q2, q3, q4⟩ := lcGo_inv I Q xs s2 e3 fun s z hs hz => hb s z hs (by simp [hz])
    refine ⟨[y] ++ ys, s', ?_, q2, ?_, by simp [q4]⟩
    · rw [lcGo, e1]
      simp only [e2, q1]
    · intro z hz
      rcases List.mem_cons.mp hz with e | hz
      · exact e ▸ e4
      · exact q3 z hz
theorem rd_put_self {s : Sl} {k : Nat} {t : T} {w : Ow} (h : k < s.length) : rd (put s k t w) k = some (t, w) := by
  unfold rd put
  rw [List.getElem?_set_self h]; rfl
theorem rd_put_ne {s : Sl} {k i : Nat} {t : T} {w : Ow} (h : k ≠ i) : rd (put s k t w) i = rd s i := by
  unfold rd put
  rw [List.getElem?_set_ne h]
theorem rd_wipe_ne {s : Sl} {k i : Nat} (h : k ≠ i) : rd (wipe s [k]) i = rd s i := by
  unfold rd wipe wipe
  rw [List.getElem?_set_ne h]
theorem wipe_put {s : Sl} {k : Nat} {t : T} {w : Ow} : wipe (put (wipe s [k]) k t w) [k] = wipe s [k] := by
  simp [wipe, put]
theorem lfL_iff : ∀ {xs : List T}, T.lfL xs = true ↔ ∀ x ∈ xs, x.lf = true
  | [] => by simp [T.lfL]
  | x :: xs => by rw [T.lfL, Bool.and_eq_true, lfL_iff]; simp
theorem pdL_iff {n : Nat} : ∀ {xs : List T}, T.pdL n xs = true ↔ ∀ x ∈ xs, x.pd n = true
  | [] => by simp [T.pdL]
  | x :: xs => by rw [T.pdL, Bool.and_eq_true, pdL_iff]; simp
section
variable {G : Pg} {C : Nat → List T → CR}
/-! ### calls by value -/
theorem call0 {f : Nat} {F : Fn} {s : Sl} {z : T} {o : Bool} (hF : G.fns[f]? = some F) (hm : F.md = []) (hc : C f [] = .ok z o []) : ev G C (.call f []) s = .ok (z, o) s := by
  simp [ev, evas, hF, hm, Rv.bind, callR, bindA, ioOf, roOf, apart, putIo, hc]
theorem call1 {f : Nat} {F : Fn} {a : E} {x : T} {w1 : Bool} {s : Sl} {z : T} {o : Bool} (hF : G.fns[f]? = some F) (hm : F.md = [.va]) (ha : a.asBrw = none) (h1 : ev G C a s = .ok (x, w1) s) (hc : C f [x] = .ok z o []) : ev G C (.call f [a]) s = .ok (z, o) s := by
  rw [ev]
  simp [evas, ag, ha, h1, hF, hm, Rv.bind, callR, bindA, ioOf, roOf, apart, putIo, hc]
theorem call2 {f : Nat} {F : Fn} {a b : E} {x y : T} {w1 w2 : Bool} {s : Sl} {z : T} {o : Bool} (hF : G.fns[f]? = some F) (hm : F.md = [.va, .va]) (ha : a.asBrw = none) (hb : b.asBrw = none) (h1 : ev G C a s = .ok (x, w1) s) (h2 : ev G C b s = .ok (y, w2) s) (hc : C f [x, y] = .ok z o []) : ev G C (.call f [a, b]) s = .ok (z, o) s := by
  rw [ev]
  simp [evas, ag, ha, hb, h1, h2, hF, hm, Rv.bind, callR, bindA, ioOf, roOf, apart, putIo, hc]
theorem call3 {f : Nat} {F : Fn} {a b c : E} {x y v : T} {w1 w2 w3 : Bool} {s : Sl} {z : T} {o : Bool} (hF : G.fns[f]? = some F) (hm : F.md = [.va, .va, .va]) (ha : a.asBrw = none) (hb : b.asBrw = none) (hc' : c.asBrw = none) (h1 : ev G C a s = .ok (x, w1) s) (h2 : ev G C b s = .ok (y, w2) s) (h3 : ev G C c s = .ok (v, w3) s) (hc : C f [x, y, v] = .ok z o []) : ev G C (.call f [a, b, c]) s = .ok (z, o) s := by
  rw [ev]
  simp [evas, ag, ha, hb, hc', h1, h2, h3, hF, hm, Rv.bind, callR, bindA, ioOf, roOf, apart, putIo, hc]
/-! ### comprehensions -/
theorem ag_of {c : E} {s s1 : Sl} {x : T} {w : Bool} (h : c.asBrw = none) (h1 : ev G C c s = .ok (x, w) s1) : ag c (ev G C c s) s = .ok (.v x w) s1 := by
  unfold ag; rw [h, h1]; rfl
theorem flat_filter {p : T → Bool} : ∀ xs : List T, (xs.flatMap fun x => if p x then [(x, true)] else []) = (xs.filter p).map fun x => (x, true)
  | [] => rfl
  | x :: xs => by
    rw [List.flatMap_cons, flat_filter xs, List.filter_cons]
    cases p x <;> rfl
/-- [x for x in it if c] -/
theorem ev_filt {t : Tg} {it c elt : E} {own : List Nat} {s s1 : Sl} {a : T} {o : Bool} {xs : List T} {p : T → Bool} (h1 : ag it (ev G C it s) s = .ok (.v a o) s1) (h2 : a.items = some xs) (h3 : mayHide s1 own = true)
    (hb : ∀ x ∈ xs, ∃ s2, putTg t x (wipe s1 own) = some s2 ∧ ev G C c s2 = .ok (.bl (p x), true) s2 ∧ ev G C elt s2 = .ok (x, true) s2 ∧ wipe s2 own = wipe s1 own) (hl : xs.length ≤ LIM) :
    ev G C (.lc t it [c] elt own) s = .ok (.lst (xs.filter p), true) s1 := by
  have q := ev_lc (G := G) (C := C) (cs := [c]) (elt := elt) (g := fun x => if p x then [(x, true)] else []) h1 h2 h3 (fun x hx => by
    obtain ⟨s2, e1, e2, e3, e4⟩ := hb x hx
    refine ⟨s2, s2, e1, ?_, e4⟩
    rw [evc, e2]
    cases p x with
    | true => simp [Rv.bind, T.tr, evc, e3]
    | false => simp [Rv.bind, T.tr]) (by rw [flat_filter, List.length_map]; exact Nat.le_trans (List.length_filter_le _ _) hl)
  rw [flat_filter, List.map_map] at q
  rw [q]
  have e : ((xs.filter p).map fun x => ((x, true) : T × Bool)).all (·.2) = true := by simp
  rw [e, Bool.or_true]
  have e2 : (xs.filter p).map (Prod.fst ∘ fun x => ((x, true) : T × Bool)) = xs.filter p := by
    rw [show (Prod.fst ∘ fun x => ((x, true) : T × Bool)) = id from rfl, List.map_id]
  rw [e2]
/-- [elt for t in it for t1 in it1 if ..] -/
theorem ev_lc2 {t t1 : Tg} {it it1 elt : E} {cs1 : List E} {own own1 : List Nat} {s s1 : Sl} {a : T} {o : Bool} {xs : List T} {g : T → List (T × Bool)} (h1 : ag it (ev G C it s) s = .ok (.v a o) s1) (h2 : a.items = some xs) (h3 : mayHide s1 own = true)
    (hb : ∀ x ∈ xs, ∃ s2 a1 o1 ys s4 s9, putTg t x (wipe s1 own) = some s2 ∧ ag it1 (ev G C it1 s2) s2 = .ok (.v a1 o1) s4 ∧ a1.items = some ys ∧ lcGo own1 t1 (fun s6 => evc G C cs1 s6 fun s7 => (ev G C elt s7).bind fun y s8 => .ok [y] s8) ys s4 = .ok (g x) s9 ∧ wipe (wipe s9 own1) own = wipe s1 own) (hl : (xs.flatMap g).length ≤ LIM) :
    ev G C (.lc2 t it t1 it1 cs1 elt own own1) s = .ok (.lst ((xs.flatMap g).map (·.1)), T.lfL ((xs.flatMap g).map (·.1)) || (xs.flatMap g).all (·.2)) s1 := by
  have sv : ∀ (b : T) (w : Bool) (zs : List T) (r : Sl), b.items = some zs → src (.v b w) r = some (zs, r, none) := fun b w zs r h => by simp [src, h]
  obtain ⟨sE, q1, q2⟩ := lcGo_map (own := own) (tg := t) (body := fun s3 => (ag it1 (ev G C it1 s3) s3).bind fun a1 s4 => match src a1 s4 with
          | none => .bad
          | some (ys, s5, lk1) => match lcGo own1 t1 (fun s6 => evc G C cs1 s6 (fun s7 => (ev G C elt s7).bind fun y s8 => .ok [y] s8)) ys s5 with
            | .ok zs s9 => .ok zs (unlk (wipe s9 own1) lk1)
            | _ => .bad) (s0 := s1) (g := g) xs (wipe s1 own) (wipe_wipe s1 own) (fun x hx => by
    obtain ⟨s2, a1, o1, ys, s4, s9, e1, e2, e3, e4, e5⟩ := hb x hx
    refine ⟨s2, wipe s9 own1, e1, ?_, e5⟩
    show (ag it1 (ev G C it1 s2) s2).bind _ = _
    rw [e2]
    show (match src (.v a1 o1) s4 with | none => _ | some (ys, s5, lk1) => _) = _
    rw [sv a1 o1 ys s4 e3]
    show (match lcGo own1 t1 _ ys s4 with | .ok zs s9 => _ | _ => _) = _
    rw [e4]; rfl)
  rw [ev, h1]
  show (match src (.v a o) s1 with | none => _ | some (xs, s2, lk) => _) = _
  rw [sv a o xs s1 h2]
  show (if mayHide s1 own then _ else _) = _
  rw [if_pos h3]
  refine (congrArg (lcOut s1 own none) q1).trans ?_
  unfold lcOut
  simp only
  rw [if_pos hl, back_same q2]
  rfl
theorem bls_map {α : Type} {p : α → Bool} : ∀ xs : List α, blsOf (xs.map fun x => T.bl (p x)) = some (xs.map p)
  | [] => rfl
  | x :: xs => by rw [List.map_cons, blsOf, bls_map xs]; rfl
/-- any([..]), all([..]) -/
theorem ev_any {t : Tg} {it elt : E} {own : List Nat} {s s1 : Sl} {a : T} {o : Bool} {xs : List T} {p : T → Bool} (h1 : ag it (ev G C it s) s = .ok (.v a o) s1) (h2 : a.items = some xs) (h3 : mayHide s1 own = true)
    (hb : ∀ x ∈ xs, ∃ s2, putTg t x (wipe s1 own) = some s2 ∧ ev G C elt s2 = .ok (.bl (p x), true) s2 ∧ wipe s2 own = wipe s1 own) (hl : xs.length ≤ LIM) :
    ev G C (.op1 .any (.lc t it [] elt own)) s = .ok (.bl (xs.any p), true) s1 := by
  have q := ev_map (G := G) (C := C) (elt := elt) (h := fun x => (.bl (p x), true)) h1 h2 h3 (fun x hx => by
    obtain ⟨s2, e1, e2, e3⟩ := hb x hx
    exact ⟨s2, s2, e1, e2, e3⟩) hl
  rw [ev]
  simp only [ag, E.asBrw, q, Rv.bind, fin1, Ag.get, o1, anyT, bls_map, Option.map_some, Ag.isB, fin, Bool.false_eq_true, if_false, O1.rk, Rk.own, List.any_map]
  rfl
theorem ev_all {t : Tg} {it elt : E} {own : List Nat} {s s1 : Sl} {a : T} {o : Bool} {xs : List T} {p : T → Bool} (h1 : ag it (ev G C it s) s = .ok (.v a o) s1) (h2 : a.items = some xs) (h3 : mayHide s1 own = true)
    (hb : ∀ x ∈ xs, ∃ s2, putTg t x (wipe s1 own) = some s2 ∧ ev G C elt s2 = .ok (.bl (p x), true) s2 ∧ wipe s2 own = wipe s1 own) (hl : xs.length ≤ LIM) :
    ev G C (.op1 .all (.lc t it [] elt own)) s = .ok (.bl (xs.all p), true) s1 := by
  have q := ev_map (G := G) (C := C) (elt := elt) (h := fun x => (.bl (p x), true)) h1 h2 h3 (fun x hx => by
    obtain ⟨s2, e1, e2, e3⟩ := hb x hx
    exact ⟨s2, s2, e1, e2, e3⟩) hl
  rw [ev]
  simp only [ag, E.asBrw, q, Rv.bind, fin1, Ag.get, o1, allT, bls_map, Option.map_some, Ag.isB, fin, Bool.false_eq_true, if_false, O1.rk, Rk.own, List.all_map]
  rfl
theorem ev_not {a : E} {s s1 : Sl} {b : Bool} {w : Bool} (ha : a.asBrw = none) (h : ev G C a s = .ok (.bl b, w) s1) : ev G C (.op1 .notO a) s = .ok (.bl (!b), true) s1 := by
  rw [ev, ag_of ha h]
  simp [Rv.bind, fin1, Ag.get, o1, notT, T.tr, Ag.isB, fin, O1.rk, Rk.own]
/-! ### numbers -/
def nums (l : List Nat) : List T := l.map fun (n : Nat) => T.int (n : Int)
theorem nums_len (l : List Nat) : (nums l).length = l.length := by simp [nums]
theorem rangeL_nums (n : Nat) : rangeL 0 n = nums (List.range n) := by
  unfold rangeL nums
  have e : ((n : Int) - 0).toNat = n := by omega
  rw [e]
  refine List.map_congr_left fun k _ => ?_
  rw [Int.zero_add]
theorem nums_lf : ∀ l : List Nat, T.lfL (nums l) = true
  | [] => rfl
  | a :: l => by
    show T.lfL (.int a :: nums l) = true
    rw [T.lfL, nums_lf l]; rfl
theorem nums_pd {k : Nat} : ∀ l : List Nat, T.pdL k (nums l) = true
  | [] => by simp [nums, T.pdL]
  | a :: l => by
    show T.pdL k (.int a :: nums l) = true
    rw [T.pdL, nums_pd l]
    cases k <;> simp [T.pd]
theorem nums_any {y : Nat} : ∀ l : List Nat, ((nums l).any fun z => z.eq (.int y)) = decide (y ∈ l)
  | [] => rfl
  | a :: l => by
    show ((T.int a).eq (.int y) || (nums l).any fun z => z.eq (.int y)) = _
    rw [nums_any l]
    by_cases e : a = y
    · subst e; simp [T.eq]
    · have e' : ¬ y = a := fun q => e q.symm
      have e2 : ((a : Int) == (y : Int)) = false := by simp; omega
      simp [T.eq, e2, e']
theorem memN (y : Nat) (l : List Nat) : memT (.int y) (.lst (nums l)) = some (decide (y ∈ l)) := by
  have e : ∀ k, (T.int (y : Int)).pd k = true := fun k => by cases k <;> simp [T.pd]
  simp only [memT, e, nums_pd, Bool.and_self, if_true, nums_any]
theorem memNt (y : Nat) (l : List Nat) : memT (.int y) (.tup (nums l)) = some (decide (y ∈ l)) := by
  have e : ∀ k, (T.int (y : Int)).pd k = true := fun k => by cases k <;> simp [T.pd]
  simp only [memT, e, nums_pd, Bool.and_self, if_true, nums_any]
theorem idxN {l : List Nat} {x a : Nat} (h : l[x]? = some a) : idxT (.tup (nums l)) (.int x) = some (.int a) := by
  have hx : x < l.length := by
    rcases Nat.lt_or_ge x l.length with q | q
    · exact q
    · rw [List.getElem?_eq_none q] at h; cases h
  have e : ixN (nums l).length (x : Int) = some x := by
    unfold ixN
    rw [nums_len, if_pos (by omega), if_pos (by omega)]; rfl
  simp only [idxT, e, Option.bind_some]
  unfold nums
  rw [List.getElem?_map, h]; rfl
theorem idxNl {l : List Nat} {x a : Nat} (h : l[x]? = some a) : idxT (.lst (nums l)) (.int x) = some (.int a) := by
  have hx : x < l.length := by
    rcases Nat.lt_or_ge x l.length with q | q
    · exact q
    · rw [List.getElem?_eq_none q] at h; cases h
  have e : ixN (nums l).length (x : Int) = some x := by
    unfold ixN
    rw [nums_len, if_pos (by omega), if_pos (by omega)]; rfl
  simp only [idxT, e, Option.bind_some]
  unfold nums
  rw [List.getElem?_map, h]; rfl
/-- a bit of a number -/
theorem bit_int (a y : Nat) : ((a : Int) / 2 ^ y % 2 == 1) = a.testBit y := by
  rw [Nat.testBit_eq_decide_div_mod_eq]
  have e : ((a : Int) / 2 ^ y % 2) = ((a / 2 ^ y % 2 : Nat) : Int) := by
    rw [Int.natCast_emod, Int.natCast_ediv, Int.natCast_pow]; rfl
  rw [e]
  by_cases h : a / 2 ^ y % 2 = 1
  · simp [h]
  · have : ¬ ((a / 2 ^ y % 2 : Nat) : Int) = 1 := by omega
    simp [h]
    omega
theorem has_ev {A B : E} {s : Sl} {a y : Nat} {w1 w2 : Bool} (ha : A.asBrw = none) (hb : B.asBrw = none) (h1 : ev G C A s = .ok (.int a, w1) s) (h2 : ev G C B s = .ok (.int y, w2) s) :
    ev G C (.op2 .eq (.op2 .band (.op2 .shr A B) (.con (.int 1))) (.con (.int 1))) s = .ok (.bl (a.testBit y), true) s := by
  refine two rfl rfl (two rfl rfl (two ha hb h1 h2 (z := .int ((a : Int) / 2 ^ y)) (by simp [o2]) rfl) conI (z := .int ((a : Int) / 2 ^ y % 2)) (by simp [o2, PyProof.Rows.bitAnd_m1]) rfl) conI ?_ rfl
  have e : ∀ i : Int, (T.int i).pd 60 = true := fun i => by simp [T.pd]
  simp only [o2, eqT, e, Bool.and_self, if_true, T.eq, bit_int]
end
/-! ### a thing is equal to itself -/
mutual
theorem eq_self : ∀ (x : T) (n : Nat), x.pd n = true → x.eq x = true
  | .non, _, _ => by simp [T.eq]
  | .bl _, _, _ => by simp [T.eq]
  | .int _, _, _ => by simp [T.eq]
  | .str _, _, _ => by simp [T.eq]
  | .tup xs, 0, h => by simp [T.pd] at h
  | .tup xs, n + 1, h => by
    rw [T.eq]
    exact eq_selfL xs n (by simpa [T.pd] using h)
  | .lst xs, 0, h => by simp [T.pd] at h
  | .lst xs, n + 1, h => by
    rw [T.eq]
    exact eq_selfL xs n (by simpa [T.pd] using h)
  | .frz _, 0, h => by simp [T.pd] at h
  | .frz _, _ + 1, h => by simp [T.pd] at h
  | .dic _ _, 0, h => by simp [T.pd] at h
  | .dic _ _, _ + 1, h => by simp [T.pd] at h
  | .fn _, 0, h => by simp [T.pd] at h
  | .fn _, _ + 1, h => by simp [T.pd] at h
  | .exn _ _, 0, h => by simp [T.pd] at h
  | .exn _ _, _ + 1, h => by simp [T.pd] at h
theorem eq_selfL : ∀ (xs : List T) (n : Nat), T.pdL n xs = true → T.eqL xs xs = true
  | [], _, _ => by simp [T.eqL]
  | x :: xs, n, h => by
    rw [T.pdL, Bool.and_eq_true] at h
    rw [T.eqL, eq_self x n h.1, eq_selfL xs n h.2]; rfl
end
end M
end

section
set_option Elab.async false
set_option autoImplicit false
set_option linter.all false
set_option maxRecDepth 100000
set_option maxHeartbeats 4000000
/-! WordLib: the eighteen words as numbers. -/
namespace M
open PySem.W PyProof.Rows
def wordsL : List T := [(.str "refl"), (.str "irr"), (.str "sym"), (.str "asym"), (.str "anti"), (.str "trans"), (.str "neg"), (.str "total"), (.str "conn"), (.str "serial"), (.str "inv"), (.str "eucl"), (.str "func"), (.str "acyc"), (.str "ferr"), (.str "ident"), (.str "full"), (.str "one")]
def wd (i : Nat) : T := (wordsL[i]?).getD .non
def enc (l : List Nat) : List T := l.map wd
theorem words_eq : wordsL = enc (List.range 18) := by kernel_rfl
theorem w0 : T.str "refl" = wd 0 := rfl
theorem w1 : T.str "irr" = wd 1 := rfl
theorem w2 : T.str "sym" = wd 2 := rfl
theorem w3 : T.str "asym" = wd 3 := rfl
theorem w4 : T.str "anti" = wd 4 := rfl
theorem w5 : T.str "trans" = wd 5 := rfl
theorem w6 : T.str "neg" = wd 6 := rfl
theorem w7 : T.str "total" = wd 7 := rfl
theorem w8 : T.str "conn" = wd 8 := rfl
theorem w9 : T.str "serial" = wd 9 := rfl
theorem w10 : T.str "inv" = wd 10 := rfl
theorem w11 : T.str "eucl" = wd 11 := rfl
theorem w12 : T.str "func" = wd 12 := rfl
theorem w13 : T.str "acyc" = wd 13 := rfl
theorem w14 : T.str "ferr" = wd 14 := rfl
theorem w15 : T.str "ident" = wd 15 := rfl
theorem w16 : T.str "full" = wd 16 := rfl
theorem w17 : T.str "one" = wd 17 := rfl
theorem wd_eq : ((List.range 18).all fun a => (List.range 18).all fun b => (wd a).eq (wd b) == decide (a = b)) = true := by decide +kernel
theorem wd_eq' {a b : Nat} (ha : a < 18) (hb : b < 18) : (wd a).eq (wd b) = decide (a = b) := by
  have h := List.all_eq_true.mp (List.all_eq_true.mp wd_eq a (by simpa using ha)) b (by simpa using hb)
  exact beq_iff_eq.mp h
theorem wd_pd : ((List.range 18).all fun a => (wd a).pd 59 && (wd a).pd 60 && (wd a).lf) = true := by decide +kernel
theorem wd_pd' {a : Nat} (ha : a < 18) : (wd a).pd 59 = true ∧ (wd a).pd 60 = true ∧ (wd a).lf = true := by
  have h := List.all_eq_true.mp wd_pd a (by simpa using ha)
  simp only [Bool.and_eq_true] at h
  exact ⟨h.1.1, h.1.2, h.2⟩
theorem lf_n {j : Nat} (hj : j < 18) : (wd j).lf = true := (wd_pd' hj).2.2
theorem enc_pd : ∀ {l : List Nat}, (∀ a ∈ l, a < 18) → T.pdL 59 (enc l) = true
  | [], _ => by simp [enc, T.pdL]
  | a :: l, h => by
    show T.pdL 59 (wd a :: enc l) = true
    rw [T.pdL, (wd_pd' (h a (by simp))).1, enc_pd fun b hb => h b (by simp [hb])]; rfl
theorem enc_lf {l : List Nat} (h : ∀ a ∈ l, a < 18) : T.lfL (enc l) = true := lfL_iff.mpr fun x hx => by
  obtain ⟨a, ha, rfl⟩ := List.mem_map.mp hx
  exact (wd_pd' (h a ha)).2.2
theorem enc_mem {l : List Nat} {j : Nat} (hj : j < 18) (h : ∀ a ∈ l, a < 18) : ((enc l).any fun z => z.eq (wd j)) = decide (j ∈ l) := by
  induction l with
  | nil => rfl
  | cons a l ih =>
    show ((wd a).eq (wd j) || (enc l).any fun z => z.eq (wd j)) = _
    rw [ih fun b hb => h b (by simp [hb]), wd_eq' (h a (by simp)) hj]
    by_cases e : a = j
    · subst e; simp
    · have e' : ¬ j = a := fun q => e q.symm
      simp [e, e']
theorem mem_lst {l : List Nat} {j : Nat} (hj : j < 18) (h : ∀ a ∈ l, a < 18) : memT (wd j) (.lst (enc l)) = some (decide (j ∈ l)) := by
  simp only [memT, (wd_pd' hj).2.1, enc_pd h, Bool.and_self, if_true, enc_mem hj h]
theorem mem_tup {l : List Nat} {j : Nat} (hj : j < 18) (h : ∀ a ∈ l, a < 18) : memT (wd j) (.tup (enc l)) = some (decide (j ∈ l)) := by
  simp only [memT, (wd_pd' hj).2.1, enc_pd h, Bool.and_self, if_true, enc_mem hj h]
theorem eq_wd {a b : Nat} (ha : a < 18) (hb : b < 18) : M.eqT (wd a) (wd b) = some (.bl (decide (a = b))) := by
  simp only [M.eqT, (wd_pd' ha).2.1, (wd_pd' hb).2.1, Bool.and_self, if_true, wd_eq' ha hb]
theorem ne_wd {a b : Nat} (ha : a < 18) (hb : b < 18) : M.neT (wd a) (wd b) = some (.bl (!decide (a = b))) := by
  simp only [M.neT, (wd_pd' ha).2.1, (wd_pd' hb).2.1, Bool.and_self, if_true, wd_eq' ha hb]
theorem wd_str : ((List.range 18).all fun a => (wd a).isK .str == some true) = true := by decide +kernel
theorem wd_isStr {j : Nat} (hj : j < 18) : (wd j).isK .str = some true := by
  have h := List.all_eq_true.mp wd_str j (by simpa using hj)
  exact beq_iff_eq.mp h
theorem wd_of {j : Nat} (hj : j < 18) : ∃ s, wd j = .str s := by
  have h := wd_isStr hj
  cases e : wd j <;> rw [e] at h <;> simp [T.isK] at h
  exact ⟨_, rfl⟩
theorem range18_lt : ∀ j ∈ List.range 18, j < 18 := fun j h => List.mem_range.mp h
/-- a written row of words -/
theorem m2t {i a b : Nat} (hi : i < 18) (ha : a < 18) (hb : b < 18) : memT (wd i) (.tup [wd a, wd b]) = some (decide (i = a) || decide (i = b)) := by
  have h := mem_tup (l := [a, b]) hi (by simp; omega)
  rw [show T.tup [wd a, wd b] = .tup (enc [a, b]) from rfl, h]
  simp
theorem m2l {i a b : Nat} (hi : i < 18) (ha : a < 18) (hb : b < 18) : memT (wd i) (.lst [wd a, wd b]) = some (decide (i = a) || decide (i = b)) := by
  have h := mem_lst (l := [a, b]) hi (by simp; omega)
  rw [show T.lst [wd a, wd b] = .lst (enc [a, b]) from rfl, h]
  simp
theorem m4t {i a b c d : Nat} (hi : i < 18) (ha : a < 18) (hb : b < 18) (hc : c < 18) (hd : d < 18) : memT (wd i) (.tup [wd a, wd b, wd c, wd d]) = some (decide (i = a) || decide (i = b) || decide (i = c) || decide (i = d)) := by
  have h := mem_tup (l := [a, b, c, d]) hi (by simp; omega)
  rw [show T.tup [wd a, wd b, wd c, wd d] = .tup (enc [a, b, c, d]) from rfl, h]
  simp [Bool.or_assoc]
theorem m4l {i a b c d : Nat} (hi : i < 18) (ha : a < 18) (hb : b < 18) (hc : c < 18) (hd : d < 18) : memT (wd i) (.lst [wd a, wd b, wd c, wd d]) = some (decide (i = a) || decide (i = b) || decide (i = c) || decide (i = d)) := by
  have h := mem_lst (l := [a, b, c, d]) hi (by simp; omega)
  rw [show T.lst [wd a, wd b, wd c, wd d] = .lst (enc [a, b, c, d]) from rfl, h]
  simp [Bool.or_assoc]
end M
end

section
set_option Elab.async false
set_option autoImplicit false
set_option linter.all false
set_option maxRecDepth 100000
set_option maxHeartbeats 4000000
/-! Exec: expressions and statements step by step (each rule gives the value that comes out). -/
namespace M
section
variable {G : Pg} {C : Nat → List T → CR} {s s1 s2 s3 : Sl} {a b c e : E} {x y z v : T} {w w1 w2 o : Bool} {i : Nat} {p q : Bool}
theorem varW (h : rd s i = some (x, .sh)) : ev G C (.var i) s = .ok (x, x.lf) s := by rw [ev, h]
theorem varE (h : rd s i = some (x, .sh)) (hl : x.lf = true) : ev G C (.var i) s = .ok (x, true) s := by rw [ev, h]; simp [hl]
theorem conE : ev G C (.con x) s = .ok (x, true) s := by rw [ev]
theorem movE (h : rd s i = some (x, .ow)) : ev G C (.mov i) s = .ok (x, true) (s.set i none) := by rw [ev, h]
theorem glE {k : Nat} (h : G.consts[k]? = some x) (hl : x.lf = true) : ev G C (.gl k) s = .ok (x, true) s := by rw [ev, h]; simp [hl]
theorem one1 {op : O1} (ha : a.asBrw = none) (h1 : ev G C a s = .ok (x, w) s1) (h : o1 op x = some z) (hk : op.rk.own z = true) : ev G C (.op1 op a) s = .ok (z, true) s1 := by
  rw [ev, ag_of ha h1]
  simp [Rv.bind, fin1, Ag.get, h, Ag.isB, fin, hk]
theorem two2 {op : O2} (ha : a.asBrw = none) (hb : b.asBrw = none) (h1 : ev G C a s = .ok (x, w1) s1) (h2 : ev G C b s1 = .ok (y, w2) s2) (h : o2 op x y = some z) (hk : op.rk.own z = true) : ev G C (.op2 op a b) s = .ok (z, true) s2 := by
  rw [ev, ag_of ha h1]
  simp only [Rv.bind]
  rw [ag_of hb h2]
  simp [Rv.bind, fin2, Ag.get, h, Ag.isB, fin, hk]
/-- .. the second one lent -/
theorem two2b {op : O2} (ha : a.asBrw = none) (h1 : ev G C a s = .ok (x, w1) s1) (h2 : rd s1 i = some (y, .ow) ∨ rd s1 i = some (y, .ro)) (h : o2 op x y = some z) (hk : op.rk.own z = true) : ev G C (.op2 op a (.brw i)) s = .ok (z, true) s1 := by
  rw [ev, ag_of ha h1]
  rcases h2 with h2 | h2 <;> simp [Rv.bind, ag, E.asBrw, h2, fin2, Ag.get, h, Ag.isB, fin, hk]
/-- .. the first one lent -/
theorem two2a {op : O2} (hb : b.asBrw = none) (h2 : rd s i = some (x, .ow) ∨ rd s i = some (x, .ro)) (h1 : ev G C b s = .ok (y, w1) s) (h : o2 op x y = some z) (hk : op.rk.own z = true) : ev G C (.op2 op (.brw i) b) s = .ok (z, true) s := by
  have e : ∀ r, ag (.brw i) r s = .ok (.b i) s := fun r => by rcases h2 with h2 | h2 <;> simp [ag, E.asBrw, h2]
  rw [ev, e]
  simp only [Rv.bind]
  rw [ag_of hb h1]
  rcases h2 with h2 | h2 <;> simp [Rv.bind, fin2, Ag.get, h2, h, Ag.isB, fin, hk]
theorem one1b {op : O1} (h2 : rd s i = some (x, .ow) ∨ rd s i = some (x, .ro)) (h : o1 op x = some z) (hk : op.rk.own z = true) : ev G C (.op1 op (.brw i)) s = .ok (z, true) s := by
  rw [ev]
  rcases h2 with h2 | h2 <;> simp [ag, E.asBrw, h2, Rv.bind, fin1, Ag.get, h, Ag.isB, fin, hk]
theorem andE (h1 : ev G C a s = .ok (.bl p, w) s) (h2 : ev G C b s = .ok (.bl q, w2) s) : ev G C (.and a b) s = .ok (.bl (p && q), if p then w2 else w) s := by
  rw [ev, h1]
  cases p <;> simp [Rv.bind, T.tr, h2]
theorem and1 (h1 : ev G C a s = .ok (.bl p, true) s) (h2 : ev G C b s = .ok (.bl q, true) s) : ev G C (.and a b) s = .ok (.bl (p && q), true) s := by
  rw [ev, h1]
  cases p <;> simp [Rv.bind, T.tr, h2]
theorem or1 (h1 : ev G C a s = .ok (.bl p, true) s) (h2 : ev G C b s = .ok (.bl q, true) s) : ev G C (.or a b) s = .ok (.bl (p || q), true) s := by
  rw [ev, h1]
  cases p <;> simp [Rv.bind, T.tr, h2]
/-- .. the second one only if the first one asks for it -/
theorem and2 (h1 : ev G C a s = .ok (.bl p, true) s) (h2 : p = true → ev G C b s = .ok (.bl q, true) s) : ev G C (.and a b) s = .ok (.bl (p && q), true) s := by
  rw [ev, h1]
  cases p <;> simp [Rv.bind, T.tr]
  simpa using h2 rfl
theorem or2 (h1 : ev G C a s = .ok (.bl p, true) s) (h2 : p = false → ev G C b s = .ok (.bl q, true) s) : ev G C (.or a b) s = .ok (.bl (p || q), true) s := by
  rw [ev, h1]
  cases p <;> simp [Rv.bind, T.tr]
  simpa using h2 rfl
theorem not1 (ha : a.asBrw = none) (h : ev G C a s = .ok (.bl p, w) s1) : ev G C (.op1 .notO a) s = .ok (.bl (!p), true) s1 := ev_not ha h
theorem iteT {r : Rv (T × Bool)} (h : ev G C c s = .ok (x, w) s1) (ht : x.tr = some true) (hb : ev G C a s1 = r) : ev G C (.ite c a b) s = r := by
  rw [ev, h]; simp [Rv.bind, ht, hb]
theorem iteF {r : Rv (T × Bool)} (h : ev G C c s = .ok (x, w) s1) (ht : x.tr = some false) (hb : ev G C b s1 = r) : ev G C (.ite c a b) s = r := by
  rw [ev, h]; simp [Rv.bind, ht, hb]
theorem tup1 (h : ev G C a s = .ok (x, w) s1) : ev G C (.tup [a]) s = .ok (.tup [x], w) s1 := by
  simp [ev, evs, h, Rv.bind, LIM]
theorem tup2 (h : ev G C a s = .ok (x, w) s1) (h2 : ev G C b s1 = .ok (y, w2) s2) : ev G C (.tup [a, b]) s = .ok (.tup [x, y], w && w2) s2 := by
  simp [ev, evs, h, h2, Rv.bind, LIM]
theorem lst2 (h : ev G C a s = .ok (x, w) s1) (h2 : ev G C b s1 = .ok (y, w2) s2) : ev G C (.lst [a, b]) s = .ok (.lst [x, y], w && w2) s2 := by
  simp [ev, evs, h, h2, Rv.bind, LIM]
theorem lst3 {d : E} {w3 : Bool} (h : ev G C a s = .ok (x, w) s1) (h2 : ev G C b s1 = .ok (y, w2) s2) (h3 : ev G C d s2 = .ok (z, w3) s3) : ev G C (.lst [a, b, d]) s = .ok (.lst [x, y, z], w && (w2 && w3)) s3 := by
  simp [ev, evs, h, h2, h3, Rv.bind, LIM]
theorem lst4 {d e : E} {w3 w4 : Bool} {s4 : Sl} (h : ev G C a s = .ok (x, w) s1) (h2 : ev G C b s1 = .ok (y, w2) s2) (h3 : ev G C d s2 = .ok (z, w3) s3) (h4 : ev G C e s3 = .ok (v, w4) s4) : ev G C (.lst [a, b, d, e]) s = .ok (.lst [x, y, z, v], w && (w2 && (w3 && w4))) s4 := by
  simp [ev, evs, h, h2, h3, h4, Rv.bind, LIM]
theorem tup4 {d e : E} {w3 w4 : Bool} {s4 : Sl} (h : ev G C a s = .ok (x, w) s1) (h2 : ev G C b s1 = .ok (y, w2) s2) (h3 : ev G C d s2 = .ok (z, w3) s3) (h4 : ev G C e s3 = .ok (v, w4) s4) : ev G C (.tup [a, b, d, e]) s = .ok (.tup [x, y, z, v], w && (w2 && (w3 && w4))) s4 := by
  simp [ev, evs, h, h2, h3, h4, Rv.bind, LIM]
theorem tup0 : ev G C (.tup []) s = .ok (.tup [], true) s := by simp [ev, evs, Rv.bind, LIM]
theorem lst0 : ev G C (.lst []) s = .ok (.lst [], true) s := by simp [ev, evs, Rv.bind, LIM]
theorem chainE {op1 op2 : O2} {d : E} {w3 : Bool} (h1 : ev G C a s = .ok (x, w1) s) (h2 : ev G C b s = .ok (y, w2) s) (h3 : ev G C d s = .ok (z, w3) s) (h4 : o2 op1 x y = some (.bl p)) (h5 : o2 op2 y z = some (.bl q)) (hk : op2.rk.own (.bl q) = true) : ev G C (.chain op1 op2 a b d) s = .ok (.bl (p && q), true) s := by
  rw [ev, h1]
  simp only [Rv.bind]
  rw [h2]
  simp only [h4]
  cases p <;> simp [h3, fin2, Ag.get, h5, Ag.isB, fin, hk, Rv.bind]
theorem mem2 {k : Bool} (h : memT x y = some k) : o2 .mem x y = some (.bl k) := by simp [o2, h]
theorem nmem2 {k : Bool} (h : memT x y = some k) : o2 .nmem x y = some (.bl (!k)) := by simp [o2, h]
theorem dgetE {j : Nat} {d : List (PySem.Str × T)} {k : PySem.Str} (ha : a.asBrw = none) (h1 : ev G C a s = .ok (.str k, w) s1) (hd : G.dics[j]? = some d) (hl : d.lookup k = some x) (hx : x.lf = true) : ev G C (.dget j a) s = .ok (x, true) s1 := by
  rw [ev, ag_of ha h1]
  simp [Rv.bind, Ag.get, hd, hl, fin, Ag.isB, Rk.own, hx]
/-! ### statements -/
theorem xz_nil : exs G C [] s = .nx s := by rw [exs]
theorem xz_cons {k : S} {ks : List S} {r : Fl} (h1 : ex1 G C k s = .nx s1) (h2 : exs G C ks s1 = r) : exs G C (k :: ks) s = r := by
  rw [exs, h1]; exact h2
theorem x_rt {k : S} {ks : List S} (h1 : ex1 G C k s = .rt x o s1) : exs G C (k :: ks) s = .rt x o s1 := by
  rw [exs, h1]
theorem x_ex {k : S} {ks : List S} {cc : Nat} {fs : List T} (h1 : ex1 G C k s = .ex cc fs s1) : exs G C (k :: ks) s = .ex cc fs s1 := by
  rw [exs, h1]
theorem xz_ret (h : ev G C e s = .ok (x, o) s1) : ex1 G C (.ret e) s = .rt x o s1 := by rw [ex1, h]; rfl
theorem x_set1 (h : ev G C e s = .ok (x, o) s1) : ex1 G C (.set i e) s = .nx (put s1 i x .sh) := by rw [ex1, h]; rfl
theorem x_own1 (h : ev G C e s = .ok (x, true) s1) : ex1 G C (.own i e) s = .nx (put s1 i x .ow) := by rw [ex1, h]; rfl
theorem x_drop1 (h : ev G C e s = .ok (x, o) s1) : ex1 G C (.drop e) s = .nx s1 := by rw [ex1, h]; rfl
theorem x_iffT {k l : List S} {r : Fl} (h : ev G C c s = .ok (x, w) s1) (ht : x.tr = some true) (hb : exs G C k s1 = r) : ex1 G C (.iff c k l) s = r := by
  rw [ex1, h]; simp [Rv.fl, ht, hb]
theorem x_iffF {k l : List S} {r : Fl} (h : ev G C c s = .ok (x, w) s1) (ht : x.tr = some false) (hb : exs G C l s1 = r) : ex1 G C (.iff c k l) s = r := by
  rw [ex1, h]; simp [Rv.fl, ht, hb]
/-- a test that is not there -/
theorem x_skip {k : List S} (h : ev G C c s = .ok (x, w) s1) (ht : x.tr = some false) : ex1 G C (.iff c k []) s = .nx s1 := x_iffF h ht xz_nil
theorem x_par2 {i j : Nat} {p1 p2 : Bool} (h1 : ev G C a s = .ok (x, w1) s1) (h2 : ev G C b s1 = .ok (y, w2) s2) (hp : M.putAll [(i, p1), (j, p2)] [(x, w1), (y, w2)] s2 = some s3) : ex1 G C (.par [(i, p1), (j, p2)] [a, b]) s = .nx s3 := by
  simp [ex1, evs, h1, h2, Rv.bind, Rv.fl, hp]
theorem x_fr1 {t : Tg} {it : E} {k : List S} {xs : List T} {r : Fl} (hi : it.asBrw = none) (h : ev G C it s = .ok (x, w) s1) (hx : x.items = some xs) (hr : forGo t none (fun s3 => exs G C k s3) xs s1 = r) : ex1 G C (.fr t it k) s = r := by
  rw [ex1, ag_of hi h]
  simp only [Rv.fl, src, hx, Option.map_some]
  exact hr
theorem xz_rais {cc : Nat} : ex1 G C (.rais cc []) s = .ex cc [] s := by simp [ex1, evs, Rv.fl]
theorem run_rt {F : Fn} {ts : List T} {io : List T} (hl : ts.length = F.md.length) (h : exs G C F.body (enter F.md ts F.ns) = .rt x o s) (hio : outIo s 0 F.md = some io) : runFn G C F ts = .ok x o io := by
  unfold runFn
  rw [if_pos hl, h]
  simp [leave, hio]
theorem run_rtB {F : Fn} {ts : List T} {io : List T} (hl : ts.length = F.md.length) (h : exs G C F.body (enter F.md ts F.ns) = .rt (.bl p) true s) (hio : outIo s 0 F.md = some io) (e : p = q) : runFn G C F ts = .ok (.bl q) true io := by
  subst e
  exact run_rt hl h hio
theorem run_nx {F : Fn} {ts : List T} {io : List T} (hl : ts.length = F.md.length) (h : exs G C F.body (enter F.md ts F.ns) = .nx s) (hio : outIo s 0 F.md = some io) : runFn G C F ts = .ok .non true io := by
  unfold runFn
  rw [if_pos hl, h]
  simp [leave, hio]
end
/-! ### values of operations -/
theorem intPd (i : Int) (k : Nat) : (T.int i).pd k = true := by cases k <;> simp [T.pd]
/-! ### the same as propositions that nothing unfolds -/
structure Ev (G : Pg) (C : Nat → List T → CR) (e : E) (s : Sl) (x : T) (w : Bool) (s' : Sl) : Prop where
  h : ev G C e s = .ok (x, w) s'
structure V1 (o : O1) (x z : T) : Prop where
  h : o1 o x = some z
  k : o.rk.own z = true
structure V2 (o : O2) (x y z : T) : Prop where
  h : o2 o x y = some z
  k : o.rk.own z = true
structure Mm (x y : T) (k : Bool) : Prop where
  h : memT x y = some k
structure Cv (C : Nat → List T → CR) (f : Nat) (xs : List T) (z : T) (o : Bool) : Prop where
  h : C f xs = .ok z o []
structure Lf (x : T) : Prop where
  h : x.lf = true
/-- whether it is so -/
structure Tr (x : T) (p : Bool) : Prop where
  h : x.tr = some p
structure St (G : Pg) (C : Nat → List T → CR) (k : S) (s : Sl) (r : Fl) : Prop where
  h : ex1 G C k s = r
structure Sts (G : Pg) (C : Nat → List T → CR) (k : List S) (s : Sl) (r : Fl) : Prop where
  h : exs G C k s = r
section
variable {G : Pg} {C : Nat → List T → CR} {s s1 s2 s3 s4 : Sl} {a b c d e : E} {x y z v u : T} {w w1 w2 w3 w4 o : Bool} {i f : Nat} {p q : Bool}
theorem Lf.int {n : Int} : Lf (.int n) := ⟨by simp [T.lf]⟩
theorem Lf.bl : Lf (.bl p) := ⟨by simp [T.lf]⟩
theorem Lf.non : Lf .non := ⟨by simp [T.lf]⟩
theorem Lf.str {n : PySem.Str} : Lf (.str n) := ⟨by simp [T.lf]⟩
theorem Lf.wd (h : i < 18) : Lf (wd i) := ⟨lf_n h⟩
theorem Lf.nums {l : List Nat} : Lf (.tup (nums l)) := ⟨by rw [T.lf]; exact nums_lf l⟩
theorem Ev.var (h : rd s i = some (x, .sh)) (hl : Lf x) : Ev G C (.var i) s x true s := ⟨varE h hl.h⟩
theorem Ev.varL {l : List T} (h : rd s i = some (.lst l, .sh)) : Ev G C (.var i) s (.lst l) false s := ⟨by rw [varW h]; simp [T.lf]⟩
theorem Ev.con : Ev G C (.con x) s x true s := ⟨conE⟩
theorem Ev.and (h1 : Ev G C a s (.bl p) true s) (h2 : Ev G C b s (.bl q) true s) : Ev G C (.and a b) s (.bl (p && q)) true s := ⟨and1 h1.h h2.h⟩
theorem Ev.or (h1 : Ev G C a s (.bl p) true s) (h2 : Ev G C b s (.bl q) true s) : Ev G C (.or a b) s (.bl (p || q)) true s := ⟨or1 h1.h h2.h⟩
theorem Ev.not (ha : a.asBrw = none) (h1 : Ev G C a s (.bl p) w s1) : Ev G C (.op1 .notO a) s (.bl (!p)) true s1 := ⟨not1 ha h1.h⟩
theorem Ev.one {op : O1} (ha : a.asBrw = none) (h1 : Ev G C a s x w s1) (h : V1 op x z) : Ev G C (.op1 op a) s z true s1 := ⟨one1 ha h1.h h.h h.k⟩
theorem Ev.two {op : O2} (ha : a.asBrw = none) (hb : b.asBrw = none) (h1 : Ev G C a s x w1 s1) (h2 : Ev G C b s1 y w2 s2) (h : V2 op x y z) : Ev G C (.op2 op a b) s z true s2 := ⟨two2 ha hb h1.h h2.h h.h h.k⟩
theorem Ev.twob {op : O2} (ha : a.asBrw = none) (h1 : Ev G C a s x w1 s1) (h2 : rd s1 i = some (y, .ow) ∨ rd s1 i = some (y, .ro)) (h : V2 op x y z) : Ev G C (.op2 op a (.brw i)) s z true s1 := ⟨two2b ha h1.h h2 h.h h.k⟩
theorem Ev.twoa {op : O2} (hb : b.asBrw = none) (h2 : rd s i = some (x, .ow) ∨ rd s i = some (x, .ro)) (h1 : Ev G C b s y w1 s) (h : V2 op x y z) : Ev G C (.op2 op (.brw i) b) s z true s := ⟨two2a hb h2 h1.h h.h h.k⟩
theorem Ev.oneb {op : O1} (h2 : rd s i = some (x, .ow) ∨ rd s i = some (x, .ro)) (h : V1 op x z) : Ev G C (.op1 op (.brw i)) s z true s := ⟨one1b h2 h.h h.k⟩
theorem Ev.iteT (h : Ev G C c s x w s1) (ht : Tr x true) (hb : Ev G C a s1 y w2 s2) : Ev G C (.ite c a b) s y w2 s2 := ⟨M.iteT h.h ht.h hb.h⟩
theorem Ev.iteF (h : Ev G C c s x w s1) (ht : Tr x false) (hb : Ev G C b s1 y w2 s2) : Ev G C (.ite c a b) s y w2 s2 := ⟨M.iteF h.h ht.h hb.h⟩
theorem Ev.chain {op1 op2 : O2} (h1 : Ev G C a s x w1 s) (h2 : Ev G C b s y w2 s) (h3 : Ev G C d s z w3 s) (h4 : V2 op1 x y (.bl p)) (h5 : V2 op2 y z (.bl q)) : Ev G C (.chain op1 op2 a b d) s (.bl (p && q)) true s := ⟨chainE h1.h h2.h h3.h h4.h h5.h h5.k⟩
theorem Ev.call1 {F : Fn} (hF : G.fns[f]? = some F) (hm : F.md = [.va]) (ha : a.asBrw = none) (h1 : Ev G C a s x w1 s1) (hc : Cv C f [x] z o) : Ev G C (.call f [a]) s z o s1 := ⟨by
  rw [ev]
  simp [evas, ag, ha, h1.h, hF, hm, Rv.bind, callR, bindA, ioOf, roOf, apart, putIo, hc.h]⟩
theorem Ev.call0 {F : Fn} (hF : G.fns[f]? = some F) (hm : F.md = []) (hc : Cv C f [] z o) : Ev G C (.call f []) s z o s := ⟨M.call0 hF hm hc.h⟩
theorem Ev.call2 {F : Fn} (hF : G.fns[f]? = some F) (hm : F.md = [.va, .va]) (ha : a.asBrw = none) (hb : b.asBrw = none) (h1 : Ev G C a s x w1 s) (h2 : Ev G C b s y w2 s) (hc : Cv C f [x, y] z o) : Ev G C (.call f [a, b]) s z o s := ⟨M.call2 hF hm ha hb h1.h h2.h hc.h⟩
theorem Ev.call3 {F : Fn} (hF : G.fns[f]? = some F) (hm : F.md = [.va, .va, .va]) (ha : a.asBrw = none) (hb : b.asBrw = none) (hd : c.asBrw = none) (h1 : Ev G C a s x w1 s) (h2 : Ev G C b s y w2 s) (h3 : Ev G C c s v w3 s) (hc : Cv C f [x, y, v] z o) : Ev G C (.call f [a, b, c]) s z o s := ⟨M.call3 hF hm ha hb hd h1.h h2.h h3.h hc.h⟩
theorem Ev.call4 {F : Fn} (hF : G.fns[f]? = some F) (hm : F.md = [.va, .va, .va, .va]) (ha : a.asBrw = none) (hb : b.asBrw = none) (hd : c.asBrw = none) (he : d.asBrw = none) (h1 : Ev G C a s x w1 s) (h2 : Ev G C b s y w2 s) (h3 : Ev G C c s v w3 s) (h4 : Ev G C d s u w4 s) (hc : Cv C f [x, y, v, u] z o) : Ev G C (.call f [a, b, c, d]) s z o s := ⟨by
  rw [ev]
  simp [evas, ag, ha, hb, hd, he, h1.h, h2.h, h3.h, h4.h, hF, hm, Rv.bind, callR, bindA, ioOf, roOf, apart, putIo, hc.h]⟩
theorem Ev.call5 {F : Fn} {e' : E} {u' : T} {w5 : Bool} (hF : G.fns[f]? = some F) (hm : F.md = [.va, .va, .va, .va, .va]) (ha : a.asBrw = none) (hb : b.asBrw = none) (hd : c.asBrw = none) (he : d.asBrw = none) (he' : e'.asBrw = none) (h1 : Ev G C a s x w1 s) (h2 : Ev G C b s y w2 s) (h3 : Ev G C c s v w3 s) (h4 : Ev G C d s u w4 s) (h5 : Ev G C e' s u' w5 s) (hc : Cv C f [x, y, v, u, u'] z o) : Ev G C (.call f [a, b, c, d, e']) s z o s := ⟨by
  rw [ev]
  simp [evas, ag, ha, hb, hd, he, he', h1.h, h2.h, h3.h, h4.h, h5.h, hF, hm, Rv.bind, callR, bindA, ioOf, roOf, apart, putIo, hc.h]⟩
theorem Ev.tup0 : Ev G C (.tup []) s (.tup []) true s := ⟨M.tup0⟩
theorem Ev.lst0 : Ev G C (.lst []) s (.lst []) true s := ⟨M.lst0⟩
theorem Ev.tup1 (h : Ev G C a s x w s1) : Ev G C (.tup [a]) s (.tup [x]) w s1 := ⟨M.tup1 h.h⟩
theorem Ev.tup2 (h : Ev G C a s x w s1) (h2 : Ev G C b s1 y w2 s2) : Ev G C (.tup [a, b]) s (.tup [x, y]) (w && w2) s2 := ⟨M.tup2 h.h h2.h⟩
theorem Ev.lst2 (h : Ev G C a s x w s1) (h2 : Ev G C b s1 y w2 s2) : Ev G C (.lst [a, b]) s (.lst [x, y]) (w && w2) s2 := ⟨M.lst2 h.h h2.h⟩
theorem Ev.lst3 (h : Ev G C a s x w s1) (h2 : Ev G C b s1 y w2 s2) (h3 : Ev G C d s2 z w3 s3) : Ev G C (.lst [a, b, d]) s (.lst [x, y, z]) (w && (w2 && w3)) s3 := ⟨M.lst3 h.h h2.h h3.h⟩
theorem Ev.lst4 (h : Ev G C a s x w s1) (h2 : Ev G C b s1 y w2 s2) (h3 : Ev G C d s2 z w3 s3) (h4 : Ev G C e s3 v w4 s4) : Ev G C (.lst [a, b, d, e]) s (.lst [x, y, z, v]) (w && (w2 && (w3 && w4))) s4 := ⟨M.lst4 h.h h2.h h3.h h4.h⟩
theorem Ev.tup4 (h : Ev G C a s x w s1) (h2 : Ev G C b s1 y w2 s2) (h3 : Ev G C d s2 z w3 s3) (h4 : Ev G C e s3 v w4 s4) : Ev G C (.tup [a, b, d, e]) s (.tup [x, y, z, v]) (w && (w2 && (w3 && w4))) s4 := ⟨M.tup4 h.h h2.h h3.h h4.h⟩
theorem Tr.blT : Tr (.bl true) true := ⟨rfl⟩
theorem Tr.blF : Tr (.bl false) false := ⟨rfl⟩
theorem Tr.of (h : p = q) : Tr (.bl p) q := ⟨by rw [h]; rfl⟩
theorem V2.mem {k : Bool} (h : Mm x y k) : V2 .mem x y (.bl k) := ⟨mem2 h.h, rfl⟩
theorem V2.nmem {k : Bool} (h : Mm x y k) : V2 .nmem x y (.bl (!k)) := ⟨nmem2 h.h, rfl⟩
theorem Mm.nm {y : Nat} {l : List Nat} : Mm (.int y) (.lst (nums l)) (decide (y ∈ l)) := ⟨memN y l⟩
theorem Mm.nmt {y : Nat} {l : List Nat} : Mm (.int y) (.tup (nums l)) (decide (y ∈ l)) := ⟨memNt y l⟩
theorem V2.eqN {x y : Nat} : V2 .eq (.int x) (.int y) (.bl (decide (x = y))) := ⟨by
  simp only [o2, M.eqT, intPd, Bool.and_self, if_true, T.eq]
  by_cases h : x = y
  · subst h; simp
  · have : ¬ (x : Int) = (y : Int) := by omega
    simp [h, this], rfl⟩
theorem V2.eqI {x y : Int} : V2 .eq (.int x) (.int y) (.bl (decide (x = y))) := ⟨by
  simp only [o2, M.eqT, intPd, Bool.and_self, if_true, T.eq]
  by_cases h : x = y
  · subst h; simp
  · simp [h], rfl⟩
theorem V2.neN {x y : Nat} : V2 .ne (.int x) (.int y) (.bl (!decide (x = y))) := ⟨by
  simp only [o2, M.neT, intPd, Bool.and_self, if_true, T.eq]
  by_cases h : x = y
  · subst h; simp
  · have : ¬ (x : Int) = (y : Int) := by omega
    simp [h, this], rfl⟩
theorem V2.eqB {x y : Bool} : V2 .eq (.bl x) (.bl y) (.bl (x == y)) := ⟨by simp [o2, M.eqT, T.pd, T.eq], rfl⟩
theorem V2.neB {x y : Bool} : V2 .ne (.bl x) (.bl y) (.bl (!(x == y))) := ⟨by simp [o2, M.neT, T.pd, T.eq], rfl⟩
theorem V2.lt {x y : Int} : V2 .lt (.int x) (.int y) (.bl (decide (x < y))) := ⟨rfl, rfl⟩
theorem V2.le {x y : Int} : V2 .le (.int x) (.int y) (.bl (decide (x ≤ y))) := ⟨rfl, rfl⟩
theorem V2.gt {x y : Int} : V2 .gt (.int x) (.int y) (.bl (decide (y < x))) := ⟨rfl, rfl⟩
theorem V2.ge {x y : Int} : V2 .ge (.int x) (.int y) (.bl (decide (y ≤ x))) := ⟨rfl, rfl⟩
theorem V2.idxN {l : List Nat} {x a : Nat} (h : l[x]? = some a) : V2 .idx (.tup (nums l)) (.int x) (.int a) := ⟨M.idxN h, by simp [O2.rk, Rk.own, T.lf]⟩
theorem V2.idxNl {l : List Nat} {x a : Nat} (h : l[x]? = some a) : V2 .idx (.lst (nums l)) (.int x) (.int a) := ⟨M.idxNl h, by simp [O2.rk, Rk.own, T.lf]⟩
theorem V1.lenN {l : List Nat} : V1 .len (.tup (nums l)) (.int l.length) := ⟨by simp [o1, lenT, nums_len], rfl⟩
theorem V1.lenNl {l : List Nat} : V1 .len (.lst (nums l)) (.int l.length) := ⟨by simp [o1, lenT, nums_len], rfl⟩
theorem V1.rng {n : Nat} (h : n ≤ 1000) : V1 .rng (.int n) (.lst (nums (List.range n))) := ⟨by
  have e : -RMAX ≤ (n : Int) ∧ (n : Int) ≤ LIM := by unfold RMAX LIM; omega
  simp only [o1, e, and_self, if_true, rangeL_nums], rfl⟩
theorem V1.isNn : V1 .isN .non (.bl true) := ⟨rfl, rfl⟩
theorem V1.isNt {xs : List T} : V1 .isN (.tup xs) (.bl false) := ⟨rfl, rfl⟩
theorem V1.notNn : V1 .notN .non (.bl false) := ⟨rfl, rfl⟩
theorem V1.notNt {xs : List T} : V1 .notN (.tup xs) (.bl true) := ⟨rfl, rfl⟩
theorem V1.isTup {xs : List T} : V1 (.isK .tuple) (.tup xs) (.bl true) := ⟨rfl, rfl⟩
theorem V1.isInt {n : Int} : V1 (.isK .int) (.int n) (.bl true) := ⟨rfl, rfl⟩
theorem V1.isBoolI {n : Int} : V1 (.isK .bool) (.int n) (.bl false) := ⟨rfl, rfl⟩
theorem V1.isBoolB : V1 (.isK .bool) (.bl p) (.bl true) := ⟨rfl, rfl⟩
theorem V1.isStr (h : i < 18) : V1 (.isK .str) (wd i) (.bl true) := ⟨by simp [o1, wd_isStr h], rfl⟩
/-! statements -/
theorem Sts.nil : Sts G C [] s (.nx s) := ⟨xz_nil⟩
theorem Sts.cons {k : S} {ks : List S} {r : Fl} (h1 : St G C k s (.nx s1)) (h2 : Sts G C ks s1 r) : Sts G C (k :: ks) s r := ⟨xz_cons h1.h h2.h⟩
theorem Sts.rt {k : S} {ks : List S} (h1 : St G C k s (.rt x o s1)) : Sts G C (k :: ks) s (.rt x o s1) := ⟨x_rt h1.h⟩
theorem Sts.ex {k : S} {ks : List S} {cc : Nat} {fs : List T} (h1 : St G C k s (.ex cc fs s1)) : Sts G C (k :: ks) s (.ex cc fs s1) := ⟨x_ex h1.h⟩
theorem St.ret (h : Ev G C e s x o s1) : St G C (.ret e) s (.rt x o s1) := ⟨xz_ret h.h⟩
theorem St.set (h : Ev G C e s x o s1) : St G C (.set i e) s (.nx (put s1 i x .sh)) := ⟨x_set1 h.h⟩
theorem St.own (h : Ev G C e s x true s1) : St G C (.own i e) s (.nx (put s1 i x .ow)) := ⟨x_own1 h.h⟩
theorem St.drop (h : Ev G C e s x o s1) : St G C (.drop e) s (.nx s1) := ⟨x_drop1 h.h⟩
theorem St.iffT {k l : List S} {r : Fl} (h : Ev G C c s x w s1) (ht : Tr x true) (hb : Sts G C k s1 r) : St G C (.iff c k l) s r := ⟨x_iffT h.h ht.h hb.h⟩
theorem St.iffF {k l : List S} {r : Fl} (h : Ev G C c s x w s1) (ht : Tr x false) (hb : Sts G C l s1 r) : St G C (.iff c k l) s r := ⟨x_iffF h.h ht.h hb.h⟩
theorem St.skip {k : List S} (h : Ev G C c s x w s1) (ht : Tr x false) : St G C (.iff c k []) s (.nx s1) := ⟨x_skip h.h ht.h⟩
theorem St.par2 {i j : Nat} {p1 p2 : Bool} (h1 : Ev G C a s x w1 s1) (h2 : Ev G C b s1 y w2 s2) (hp : M.putAll [(i, p1), (j, p2)] [(x, w1), (y, w2)] s2 = some s3) : St G C (.par [(i, p1), (j, p2)] [a, b]) s (.nx s3) := ⟨x_par2 h1.h h2.h hp⟩
theorem St.unp {is : List Nat} (h : Ev G C e s x w s1) (hp : putTg (.tp is) x s1 = some s2) : St G C (.unp is e) s (.nx s2) := ⟨by rw [ex1, h.h]; simp [Rv.fl, hp]⟩
theorem ix0 {a : Nat} {l : List Nat} : V2 .idx (.tup (nums (a :: l))) (.int 0) (.int a) := V2.idxN (x := 0) rfl
theorem ix1 {a b : Nat} {l : List Nat} : V2 .idx (.tup (nums (a :: b :: l))) (.int 1) (.int b) := V2.idxN (x := 1) rfl
theorem ix2 {a b c : Nat} {l : List Nat} : V2 .idx (.tup (nums (a :: b :: c :: l))) (.int 2) (.int c) := V2.idxN (x := 2) rfl
theorem ixL {a : Nat} {l : List Nat} (h : l.getLast? = some a) : V2 .idx (.tup (nums l)) (.int (-1)) (.int a) := ⟨by
  have hn : 0 < l.length := by
    cases l with
    | nil => simp at h
    | cons a r => simp
  have e : ixN (nums l).length (-1) = some (l.length - 1) := by
    unfold ixN
    rw [if_neg (by omega), if_pos (by rw [nums_len]; omega), nums_len]
    congr 1
    omega
  simp only [o2, idxT, e, Option.bind_some]
  rw [List.getLast?_eq_getElem?] at h
  unfold nums
  rw [List.getElem?_map, h]; rfl, by simp [O2.rk, Rk.own, T.lf]⟩
theorem V1.neg1 : V1 .neg (.int 1) (.int (-1)) := ⟨rfl, rfl⟩
theorem run_s {F : Fn} {ts : List T} {io : List T} (hl : ts.length = F.md.length) {s0 : Sl} (he : enter F.md ts F.ns = s0) (h : Sts G C F.body s0 (.rt x o s)) (hio : outIo s 0 F.md = some io) : runFn G C F ts = .ok x o io := by
  subst he
  exact run_rt hl h.h hio
theorem run_b {F : Fn} {ts : List T} {io : List T} (hl : ts.length = F.md.length) {s0 : Sl} (he : enter F.md ts F.ns = s0) (h : Sts G C F.body s0 (.rt (.bl p) true s)) (hio : outIo s 0 F.md = some io) (e : p = q) : runFn G C F ts = .ok (.bl q) true io := by
  subst he
  exact run_rtB hl h.h hio e
theorem run_n {F : Fn} {ts : List T} {io : List T} (hl : ts.length = F.md.length) {s0 : Sl} (he : enter F.md ts F.ns = s0) (h : Sts G C F.body s0 (.nx s)) (hio : outIo s 0 F.md = some io) : runFn G C F ts = .ok .non true io := by
  subst he
  exact run_nx hl h.h hio
end
/-! a word against a written one -/
section
variable {i : Nat}
theorem q0 (h : i < 18) : V2 .eq (wd i) (.str "refl") (.bl (decide (i = 0))) := ⟨eq_wd h (b := 0) (by decide), rfl⟩
theorem q1 (h : i < 18) : V2 .eq (wd i) (.str "irr") (.bl (decide (i = 1))) := ⟨eq_wd h (b := 1) (by decide), rfl⟩
theorem q2 (h : i < 18) : V2 .eq (wd i) (.str "sym") (.bl (decide (i = 2))) := ⟨eq_wd h (b := 2) (by decide), rfl⟩
theorem q3 (h : i < 18) : V2 .eq (wd i) (.str "asym") (.bl (decide (i = 3))) := ⟨eq_wd h (b := 3) (by decide), rfl⟩
theorem q4 (h : i < 18) : V2 .eq (wd i) (.str "anti") (.bl (decide (i = 4))) := ⟨eq_wd h (b := 4) (by decide), rfl⟩
theorem q5 (h : i < 18) : V2 .eq (wd i) (.str "trans") (.bl (decide (i = 5))) := ⟨eq_wd h (b := 5) (by decide), rfl⟩
theorem q6 (h : i < 18) : V2 .eq (wd i) (.str "neg") (.bl (decide (i = 6))) := ⟨eq_wd h (b := 6) (by decide), rfl⟩
theorem q7 (h : i < 18) : V2 .eq (wd i) (.str "total") (.bl (decide (i = 7))) := ⟨eq_wd h (b := 7) (by decide), rfl⟩
theorem q8 (h : i < 18) : V2 .eq (wd i) (.str "conn") (.bl (decide (i = 8))) := ⟨eq_wd h (b := 8) (by decide), rfl⟩
theorem q9 (h : i < 18) : V2 .eq (wd i) (.str "serial") (.bl (decide (i = 9))) := ⟨eq_wd h (b := 9) (by decide), rfl⟩
theorem q10 (h : i < 18) : V2 .eq (wd i) (.str "inv") (.bl (decide (i = 10))) := ⟨eq_wd h (b := 10) (by decide), rfl⟩
theorem q11 (h : i < 18) : V2 .eq (wd i) (.str "eucl") (.bl (decide (i = 11))) := ⟨eq_wd h (b := 11) (by decide), rfl⟩
theorem q12 (h : i < 18) : V2 .eq (wd i) (.str "func") (.bl (decide (i = 12))) := ⟨eq_wd h (b := 12) (by decide), rfl⟩
theorem q13 (h : i < 18) : V2 .eq (wd i) (.str "acyc") (.bl (decide (i = 13))) := ⟨eq_wd h (b := 13) (by decide), rfl⟩
theorem q14 (h : i < 18) : V2 .eq (wd i) (.str "ferr") (.bl (decide (i = 14))) := ⟨eq_wd h (b := 14) (by decide), rfl⟩
theorem q15 (h : i < 18) : V2 .eq (wd i) (.str "ident") (.bl (decide (i = 15))) := ⟨eq_wd h (b := 15) (by decide), rfl⟩
theorem q16 (h : i < 18) : V2 .eq (wd i) (.str "full") (.bl (decide (i = 16))) := ⟨eq_wd h (b := 16) (by decide), rfl⟩
theorem q17 (h : i < 18) : V2 .eq (wd i) (.str "one") (.bl (decide (i = 17))) := ⟨eq_wd h (b := 17) (by decide), rfl⟩
theorem r_tup_asym_anti (h : i < 18) : Mm (wd i) (.tup [.str "asym", .str "anti"]) (decide (i = 3) || decide (i = 4)) := ⟨m2t h (a := 3) (b := 4) (by decide) (by decide)⟩
theorem r_tup_total_conn (h : i < 18) : Mm (wd i) (.tup [.str "total", .str "conn"]) (decide (i = 7) || decide (i = 8)) := ⟨m2t h (a := 7) (b := 8) (by decide) (by decide)⟩
theorem r_tup_refl_irr_serial_inv (h : i < 18) : Mm (wd i) (.tup [.str "refl", .str "irr", .str "serial", .str "inv"]) (decide (i = 0) || decide (i = 1) || decide (i = 9) || decide (i = 10)) := ⟨m4t h (a := 0) (b := 1) (c := 9) (d := 10) (by decide) (by decide) (by decide) (by decide)⟩
theorem r_lst_refl_irr_serial_inv (h : i < 18) : Mm (wd i) (.lst [.str "refl", .str "irr", .str "serial", .str "inv"]) (decide (i = 0) || decide (i = 1) || decide (i = 9) || decide (i = 10)) := ⟨m4l h (a := 0) (b := 1) (c := 9) (d := 10) (by decide) (by decide) (by decide) (by decide)⟩
theorem r_lst_trans_neg_eucl_func (h : i < 18) : Mm (wd i) (.lst [.str "trans", .str "neg", .str "eucl", .str "func"]) (decide (i = 5) || decide (i = 6) || decide (i = 11) || decide (i = 12)) := ⟨m4l h (a := 5) (b := 6) (c := 11) (d := 12) (by decide) (by decide) (by decide) (by decide)⟩
theorem r_lst_refl_irr (h : i < 18) : Mm (wd i) (.lst [.str "refl", .str "irr"]) (decide (i = 0) || decide (i = 1)) := ⟨m2l h (a := 0) (b := 1) (by decide) (by decide)⟩
theorem r_lst_sym_asym (h : i < 18) : Mm (wd i) (.lst [.str "sym", .str "asym"]) (decide (i = 2) || decide (i = 3)) := ⟨m2l h (a := 2) (b := 3) (by decide) (by decide)⟩
theorem r_lst_anti_conn (h : i < 18) : Mm (wd i) (.lst [.str "anti", .str "conn"]) (decide (i = 4) || decide (i = 8)) := ⟨m2l h (a := 4) (b := 8) (by decide) (by decide)⟩
theorem r_lst_total_full (h : i < 18) : Mm (wd i) (.lst [.str "total", .str "full"]) (decide (i = 7) || decide (i = 16)) := ⟨m2l h (a := 7) (b := 16) (by decide) (by decide)⟩
theorem r_lst_ident_one (h : i < 18) : Mm (wd i) (.lst [.str "ident", .str "one"]) (decide (i = 15) || decide (i = 17)) := ⟨m2l h (a := 15) (b := 17) (by decide) (by decide)⟩
end
end M
end

section
set_option Elab.async false
set_option autoImplicit false
set_option linter.all false
set_option maxRecDepth 100000
set_option maxHeartbeats 4000000
/-! Exec2: values of any kind; tests cut short; displays of any length; calls that change a lent list. -/
namespace M
section
variable {G : Pg} {C : Nat → List T → CR} {s s1 s2 s3 s4 : Sl} {a b c d e : E} {x y z v u : T} {w w1 w2 w3 w4 o : Bool} {i f : Nat} {p q : Bool}
theorem Ev.varA (h : rd s i = some (x, .sh)) : Ev G C (.var i) s x x.lf s := ⟨varW h⟩
theorem Ev.oneW {op : O1} (ha : a.asBrw = none) (h1 : Ev G C a s x w s1) (h : o1 op x = some z) : Ev G C (.op1 op a) s z (op.rk.own z) s1 := ⟨by
  rw [ev, ag_of ha h1.h]
  simp only [Rv.bind, fin1, Ag.get, h, Ag.isB, fin]
  cases hk : op.rk.own z <;> simp⟩
theorem Ev.twoW {op : O2} (ha : a.asBrw = none) (hb : b.asBrw = none) (h1 : Ev G C a s x w1 s1) (h2 : Ev G C b s1 y w2 s2) (h : o2 op x y = some z) : Ev G C (.op2 op a b) s z (op.rk.own z) s2 := ⟨by
  rw [ev, ag_of ha h1.h]
  simp only [Rv.bind]
  rw [ag_of hb h2.h]
  simp only [Rv.bind, fin2, Ag.get, h, Ag.isB, fin]
  cases hk : op.rk.own z <;> simp⟩
theorem Ev.orT (h1 : Ev G C a s (.bl true) w s1) : Ev G C (.or a b) s (.bl true) w s1 := ⟨by rw [ev, h1.h]; simp [Rv.bind, T.tr]⟩
theorem Ev.orF {r : T} (h1 : Ev G C a s (.bl false) w s1) (h2 : Ev G C b s1 r w2 s2) : Ev G C (.or a b) s r w2 s2 := ⟨by rw [ev, h1.h]; simp [Rv.bind, T.tr, h2.h]⟩
theorem Ev.andF (h1 : Ev G C a s (.bl false) w s1) : Ev G C (.and a b) s (.bl false) w s1 := ⟨by rw [ev, h1.h]; simp [Rv.bind, T.tr]⟩
theorem Ev.andT {r : T} (h1 : Ev G C a s (.bl true) w s1) (h2 : Ev G C b s1 r w2 s2) : Ev G C (.and a b) s r w2 s2 := ⟨by rw [ev, h1.h]; simp [Rv.bind, T.tr, h2.h]⟩
theorem Ev.as (h : Ev G C a s (.bl p) w s1) (e : p = q) : Ev G C a s (.bl q) w s1 := e ▸ h
/-- values in a row -/
structure Evs (G : Pg) (C : Nat → List T → CR) (es : List E) (s : Sl) (xs : List (T × Bool)) (s' : Sl) : Prop where
  h : evs G C es s = .ok xs s'
theorem Evs.nil : Evs G C [] s [] s := ⟨by rw [evs]⟩
theorem Evs.cons {es : List E} {xs : List (T × Bool)} (h : Ev G C e s x w s1) (hs : Evs G C es s1 xs s2) : Evs G C (e :: es) s ((x, w) :: xs) s2 := ⟨by rw [evs, h.h]; simp [Rv.bind, hs.h]⟩
theorem Ev.lst {es : List E} {xs : List (T × Bool)} (h : Evs G C es s xs s1) (hl : xs.length ≤ 1000) : Ev G C (.lst es) s (.lst (xs.map (·.1))) (xs.all (·.2)) s1 := ⟨by
  have : xs.length ≤ LIM := Nat.le_trans hl (by decide)
  rw [ev, h.h]; simp [Rv.bind, this]⟩
theorem Ev.tup {es : List E} {xs : List (T × Bool)} (h : Evs G C es s xs s1) (hl : xs.length ≤ 1000) : Ev G C (.tup es) s (.tup (xs.map (·.1))) (xs.all (·.2)) s1 := ⟨by
  have : xs.length ≤ LIM := Nat.le_trans hl (by decide)
  rw [ev, h.h]; simp [Rv.bind, this]⟩
/-- f(D, e), D lent and changed -/
theorem Ev.callIo {F : Fn} {D D' : T} {k : Nat} (hF : G.fns[f]? = some F) (hm : F.md = [.io, .va]) (ha : a.asBrw = none) (hr : rd s k = some (D, .ow)) (h : Ev G C a s x w s) (hc : C f [D, x] = .ok z o [D']) : Ev G C (.call f [(.brw k), a]) s z o (put s k D' .ow) := ⟨by
  have hb : ag (.brw k) (ev G C (.brw k) s) s = .ok (.b k) s := by simp [ag, E.asBrw, hr]
  rw [ev, evas, hb]
  simp only [Rv.bind, evas]
  rw [ag_of ha h.h]
  simp [Rv.bind, hF, callR, bindA, hm, hr, ioOf, roOf, apart, putIo, hc]⟩
theorem Ev.callE {k : Nat} {es : List E} {r : T} (h : ev G C (.call k es) s = .ok (r, w) s1) : Ev G C (.call k es) s r w s1 := ⟨h⟩
theorem St.par {is : List (Nat × Bool)} {es : List E} {xs : List (T × Bool)} (h : Evs G C es s xs s1) (hp : M.putAll is xs s1 = some s2) : St G C (.par is es) s (.nx s2) := ⟨by
  rw [ex1, h.h]; simp [Rv.fl, hp]⟩
theorem St.iffS {k l : List S} (h : Ev G C c s (.bl p) w s1) (h1 : p = true → Sts G C k s1 (.nx s2)) (h2 : p = false → Sts G C l s1 (.nx s2)) : St G C (.iff c k l) s (.nx s2) := by
  cases p
  · exact St.iffF h Tr.blF (h2 rfl)
  · exact St.iffT h Tr.blT (h1 rfl)
theorem St.fr {t : Tg} {it : E} {k : List S} {xs : List T} (hi : it.asBrw = none) (h : Ev G C it s x w s1) (hx : x.items = some xs) (hr : forGo t none (fun s3 => exs G C k s3) xs s1 = .nx s2) : St G C (.fr t it k) s (.nx s2) := ⟨x_fr1 hi h.h hx hr⟩
end
/-! ### data -/
/-- data, so many deep at most, with so many items at most -/
def dv (m : Nat) : Nat → T → Prop
  | _, .non => True
  | _, .bl _ => True
  | _, .int _ => True
  | _, .str x => PySem.PyData.strOk x = true
  | n + 1, .tup xs => xs.length ≤ m ∧ ∀ x ∈ xs, dv m n x
  | n + 1, .lst xs => xs.length ≤ m ∧ ∀ x ∈ xs, dv m n x
  | _, _ => False
theorem dv_pd {m : Nat} : ∀ {n : Nat} {v : T}, dv m n v → v.pd n = true
  | n, .non, _ => by cases n <;> rfl
  | n, .bl _, _ => by cases n <;> rfl
  | n, .int _, _ => by cases n <;> rfl
  | n, .str _, h => by cases n <;> exact h
  | 0, .tup _, h => h.elim
  | 0, .lst _, h => h.elim
  | n + 1, .tup xs, h => by rw [T.pd]; exact pdL_iff.mpr fun x hx => dv_pd (h.2 x hx)
  | n + 1, .lst xs, h => by rw [T.pd]; exact pdL_iff.mpr fun x hx => dv_pd (h.2 x hx)
  | 0, .frz _, h => h.elim
  | _ + 1, .frz _, h => h.elim
  | 0, .dic _ _, h => h.elim
  | _ + 1, .dic _ _, h => h.elim
  | 0, .fn _, h => h.elim
  | _ + 1, .fn _, h => h.elim
  | 0, .exn _ _, h => h.elim
  | _ + 1, .exn _ _, h => h.elim
theorem dv_mono {m m' : Nat} (hm : m ≤ m') : ∀ {n n' : Nat} {v : T}, n ≤ n' → dv m n v → dv m' n' v
  | n, n', .non, _, _ => by cases n' <;> trivial
  | n, n', .bl _, _, _ => by cases n' <;> trivial
  | n, n', .int _, _, _ => by cases n' <;> trivial
  | n, n', .str _, _, h => by cases n <;> cases n' <;> exact h
  | 0, _, .tup _, _, h => h.elim
  | 0, _, .lst _, _, h => h.elim
  | n + 1, 0, .tup _, hn, _ => by omega
  | n + 1, 0, .lst _, hn, _ => by omega
  | n + 1, n' + 1, .tup xs, hn, h => ⟨Nat.le_trans h.1 hm, fun x hx => dv_mono hm (by omega) (h.2 x hx)⟩
  | n + 1, n' + 1, .lst xs, hn, h => ⟨Nat.le_trans h.1 hm, fun x hx => dv_mono hm (by omega) (h.2 x hx)⟩
  | 0, _, .frz _, _, h => h.elim
  | _ + 1, _, .frz _, _, h => h.elim
  | 0, _, .dic _ _, _, h => h.elim
  | _ + 1, _, .dic _ _, _, h => h.elim
  | 0, _, .fn _, _, h => h.elim
  | _ + 1, _, .fn _, _, h => h.elim
  | 0, _, .exn _ _, _, h => h.elim
  | _ + 1, _, .exn _ _, _, h => h.elim
theorem pd_mono : ∀ {n n' : Nat} {v : T}, n ≤ n' → v.pd n = true → v.pd n' = true
  | n, n', .non, _, _ => by cases n' <;> rfl
  | n, n', .bl _, _, _ => by cases n' <;> rfl
  | n, n', .int _, _, _ => by cases n' <;> rfl
  | n, n', .str _, _, h => by cases n <;> cases n' <;> exact h
  | 0, _, .tup _, _, h => by simp [T.pd] at h
  | 0, _, .lst _, _, h => by simp [T.pd] at h
  | n + 1, 0, .tup _, hn, _ => by omega
  | n + 1, 0, .lst _, hn, _ => by omega
  | n + 1, n' + 1, .tup xs, hn, h => by
    rw [T.pd] at h ⊢
    exact pdL_iff.mpr fun x hx => pd_mono (by omega) (pdL_iff.mp h x hx)
  | n + 1, n' + 1, .lst xs, hn, h => by
    rw [T.pd] at h ⊢
    exact pdL_iff.mpr fun x hx => pd_mono (by omega) (pdL_iff.mp h x hx)
  | n, _, .frz _, _, h => by cases n <;> simp [T.pd] at h
  | n, _, .dic _ _, _, h => by cases n <;> simp [T.pd] at h
  | n, _, .fn _, _, h => by cases n <;> simp [T.pd] at h
  | n, _, .exn _ _, _, h => by cases n <;> simp [T.pd] at h
theorem dv_int {m n : Nat} {k : Int} : dv m n (.int k) := by cases n <;> trivial
theorem dv_bl {m n : Nat} {k : Bool} : dv m n (.bl k) := by cases n <;> trivial
theorem dv_non {m n : Nat} : dv m n .non := by cases n <;> trivial
theorem dv_str {m n : Nat} {x : PySem.Str} (h : PySem.PyData.strOk x = true) : dv m n (.str x) := by cases n <;> exact h
theorem dv_nums {m n : Nat} {l : List Nat} (h : l.length ≤ m) : dv m (n + 1) (.tup (nums l)) := ⟨by rw [nums_len]; exact h, fun x hx => by
  obtain ⟨k, _, rfl⟩ := List.mem_map.mp hx
  exact dv_int⟩
theorem dv_isK {m n : Nat} {v : T} (h : dv m n v) (k : Ki) : ∃ b, v.isK k = some b := by
  cases v with
  | frz _ => cases n <;> exact h.elim
  | dic _ _ => cases n <;> exact h.elim
  | fn _ => cases n <;> exact h.elim
  | exn _ _ => cases n <;> exact h.elim
  | _ => exact ⟨_, rfl⟩
/-- whether an int that is no bool -/
def T.whole : T → Bool
  | .int _ => true
  | _ => false
def T.isTup : T → Bool
  | .tup _ => true
  | _ => false
theorem isK_tup {m n : Nat} {v : T} (h : dv m n v) : o1 (.isK .tuple) v = some (.bl v.isTup) := by
  cases v with
  | frz _ => cases n <;> exact h.elim
  | dic _ _ => cases n <;> exact h.elim
  | fn _ => cases n <;> exact h.elim
  | exn _ _ => cases n <;> exact h.elim
  | _ => rfl
end M
end
set_option Elab.async false
set_option linter.all false
set_option maxRecDepth 1000000
set_option maxHeartbeats 0
namespace K
open M PySem.W PyProof.Rows
def top (i : Nat) : PySem.Stmt := PySem.Challenge.pw_tiekinds_k03_whole_objections_judged.main.body.getD i (.Pass ⟨0, 0, 0, 0⟩)
abbrev f_is_whole : Nat := 0
abbrev f_has : Nat := 1
abbrev f_things_in : Nat := 2
abbrev f_is_tie : Nat := 3
abbrev f_check_tie : Nat := 4
abbrev f_is_thing : Nat := 5
abbrev f_led_to : Nat := 6
abbrev f_way_between : Nat := 7
abbrev f_check_word : Nat := 8
abbrev f_breaks_thing : Nat := 9
abbrev f_breaks_two : Nat := 10
abbrev f_breaks_three : Nat := 11
abbrev f_breaks_it : Nat := 12
abbrev f_rows_of : Nat := 13
abbrev f_found_round : Nat := 14
abbrev f_found_objection : Nat := 15
abbrev f_objection : Nat := 16
abbrev f_judged_round : Nat := 17
abbrev f_takes_objection : Nat := 18
abbrev f_law_draw : Nat := 19
abbrev f_law_take : Nat := 20
abbrev f_law_says : Nat := 21
abbrev f_law_words : Nat := 22
abbrev f_law_order : Nat := 23
abbrev f_law_styled : Nat := 24
abbrev f_law_tie : Nat := 25
abbrev f_law_has : Nat := 26
abbrev f_law_ahead : Nat := 27
abbrev f_law_count : Nat := 28
abbrev f_law_bad : Nat := 29
abbrev f_law_thing : Nat := 30
abbrev f_law_right : Nat := 31
abbrev f_law_bent : Nat := 32
abbrev f_law_raises : Nat := 33
abbrev f_law : Nat := 34
abbrev c_Fault : Nat := 0
abbrev c_Malformed : Nat := 1
abbrev g_MOST_THINGS : Nat := 0
abbrev g_WORDS : Nat := 1
abbrev t_PLACES : Nat := 0
def h_PLACES : List (PySem.Str × T) := [("refl", (.int 1)), ("irr", (.int 1)), ("serial", (.int 1)), ("inv", (.int 1)), ("sym", (.int 2)), ("asym", (.int 2)), ("anti", (.int 2)), ("total", (.int 2)), ("conn", (.int 2)), ("ident", (.int 2)), ("full", (.int 2)), ("one", (.int 2)), ("trans", (.int 3)), ("neg", (.int 3)), ("eucl", (.int 3)), ("func", (.int 3)), ("ferr", (.int 4))]
def k_MOST_THINGS : T := (.int 6)
def k_WORDS : T := (.tup [(.str "refl"), (.str "irr"), (.str "sym"), (.str "asym"), (.str "anti"), (.str "trans"), (.str "neg"), (.str "total"), (.str "conn"), (.str "serial"), (.str "inv"), (.str "eucl"), (.str "func"), (.str "acyc"), (.str "ferr"), (.str "ident"), (.str "full"), (.str "one")])
def B_is_whole : Fn := ⟨[.va], 1, -- value
  [.ret (.and (.op1 (.isK .int) (.var 0)) (.op1 .notO (.op1 (.isK .bool) (.var 0))))]⟩
def B_has : Fn := ⟨[.va, .va], 2, -- items thing
  [.ret (.op2 .eq (.op2 .band (.op2 .shr (.var 0) (.var 1)) (.con (.int 1))) (.con (.int 1)))]⟩
def B_things_in : Fn := ⟨[.va], 2, -- items k
  [.ret (.lc (.nm 1) (.op1 .rng (.gl g_MOST_THINGS)) [(.call f_has [(.var 0), (.var 1)])] (.var 1) [1])]⟩
def B_is_tie : Fn := ⟨[.va], 2, -- value items
  [.iff (.or (.op1 .notO (.op1 (.isK .tuple) (.var 0))) (.op1 .notO (.chain .le .le (.con (.int 1)) (.op1 .len (.var 0)) (.gl g_MOST_THINGS))))
     [.ret (.con (.bl false))]
     [],
   .ret (.op1 .all (.lc (.nm 1) (.var 0) [] (.and (.call f_is_whole [(.var 1)]) (.chain .le .lt (.con (.int 0)) (.var 1) (.op2 .shl (.con (.int 1)) (.op1 .len (.var 0))))) [1]))]⟩
def B_check_tie : Fn := ⟨[.va], 1, -- value
  [.iff (.op1 .notO (.call f_is_tie [(.var 0)]))
     [.rais c_Malformed []]
     []]⟩
def B_is_thing : Fn := ⟨[.va, .va], 2, -- tie value
  [.ret (.and (.call f_is_whole [(.var 1)]) (.chain .le .lt (.con (.int 0)) (.var 1) (.op1 .len (.var 0))))]⟩
def B_led_to : Fn := ⟨[.va, .va], 5, -- tie thing found place y
  [.own 2 (.call f_things_in [(.op2 .idx (.var 0) (.var 1))]),
   .set 3 (.con (.int 0)),
   .wh (.op2 .lt (.var 3) (.op1 .len (.brw 2)))
     [.ext 2 (.lc (.nm 4) (.call f_things_in [(.op2 .idx (.var 0) (.op2 .idx (.brw 2) (.var 3)))]) [(.op2 .nmem (.var 4) (.brw 2))] (.var 4) [4]),
      .aug 3 .add (.con (.int 1))],
   .ret (.op1 .sorted (.brw 2))]⟩
def B_way_between : Fn := ⟨[.va, .va, .va], 8, -- tie one two layer seen longer walk y
  [.par [(3, false), (4, true)] [(.lst [(.tup [(.var 1)])]), (.lst [])],
   .wh (.op2 .gt (.op1 .len (.var 3)) (.con (.int 0)))
     [.own 5 (.lst []),
      .fr (.nm 6) (.var 3)
        [.fr (.nm 7) (.call f_things_in [(.op2 .idx (.var 0) (.op2 .idx (.var 6) (.op1 .neg (.con (.int 1)))))])
           [.iff (.op2 .eq (.var 7) (.var 2))
              [.ret (.op2 .add (.var 6) (.tup [(.var 7)]))]
              [],
            .iff (.op2 .nmem (.var 7) (.brw 4))
              [.app 4 (.var 7),
               .app 5 (.op2 .add (.var 6) (.tup [(.var 7)]))]
              []]],
      .set 3 (.op1 .list (.brw 5))],
   .ret (.con (.non))]⟩
def B_check_word : Fn := ⟨[.va], 1, -- word
  [.iff (.or (.op1 .notO (.op1 (.isK .str) (.var 0))) (.op2 .nmem (.var 0) (.gl g_WORDS)))
     [.rais c_Malformed []]
     []]⟩
def B_breaks_thing : Fn := ⟨[.va, .va, .va], 4, -- tie word x items
  [.iff (.op2 .eq (.var 1) (.con (.str "serial")))
     [.ret (.op2 .eq (.op2 .idx (.var 0) (.var 2)) (.con (.int 0)))]
     [],
   .iff (.op2 .eq (.var 1) (.con (.str "inv")))
     [.ret (.op1 .notO (.op1 .any (.lc (.nm 3) (.var 0) [] (.call f_has [(.var 3), (.var 2)]) [3])))]
     [],
   .ret (.op2 .eq (.call f_has [(.op2 .idx (.var 0) (.var 2)), (.var 2)]) (.op2 .eq (.var 1) (.con (.str "irr"))))]⟩
def B_breaks_two : Fn := ⟨[.va, .va, .va, .va], 6, -- tie word x y there back
  [.par [(4, false), (5, false)] [(.call f_has [(.op2 .idx (.var 0) (.var 2)), (.var 3)]), (.call f_has [(.op2 .idx (.var 0) (.var 3)), (.var 2)])],
   .iff (.op2 .eq (.var 1) (.con (.str "sym")))
     [.ret (.and (.var 4) (.op1 .notO (.var 5)))]
     [],
   .iff (.op2 .mem (.var 1) (.tup [(.con (.str "asym")), (.con (.str "anti"))]))
     [.ret (.and (.var 4) (.and (.var 5) (.or (.op2 .eq (.var 1) (.con (.str "asym"))) (.op2 .ne (.var 2) (.var 3)))))]
     [],
   .iff (.op2 .mem (.var 1) (.tup [(.con (.str "total")), (.con (.str "conn"))]))
     [.ret (.and (.op1 .notO (.var 4)) (.and (.op1 .notO (.var 5)) (.or (.op2 .eq (.var 1) (.con (.str "total"))) (.op2 .ne (.var 2) (.var 3)))))]
     [],
   .iff (.op2 .eq (.var 1) (.con (.str "ident")))
     [.ret (.op2 .ne (.var 4) (.op2 .eq (.var 2) (.var 3)))]
     [],
   .ret (.ite (.op2 .eq (.var 1) (.con (.str "full"))) (.op1 .notO (.var 4)) (.op2 .nmem (.var 3) (.call f_led_to [(.var 0), (.var 2)])))]⟩
def B_breaks_three : Fn := ⟨[.va, .va, .va, .va, .va], 5, -- tie word x y z
  [.iff (.op2 .eq (.var 1) (.con (.str "neg")))
     [.ret (.and (.call f_has [(.op2 .idx (.var 0) (.var 2)), (.var 4)]) (.and (.op1 .notO (.call f_has [(.op2 .idx (.var 0) (.var 2)), (.var 3)])) (.op1 .notO (.call f_has [(.op2 .idx (.var 0) (.var 3)), (.var 4)]))))]
     [],
   .iff (.op1 .notO (.call f_has [(.op2 .idx (.var 0) (.var 2)), (.var 3)]))
     [.ret (.con (.bl false))]
     [],
   .iff (.op2 .eq (.var 1) (.con (.str "trans")))
     [.ret (.and (.call f_has [(.op2 .idx (.var 0) (.var 3)), (.var 4)]) (.op1 .notO (.call f_has [(.op2 .idx (.var 0) (.var 2)), (.var 4)])))]
     [],
   .ret (.and (.call f_has [(.op2 .idx (.var 0) (.var 2)), (.var 4)]) (.ite (.op2 .eq (.var 1) (.con (.str "func"))) (.op2 .ne (.var 3) (.var 4)) (.op1 .notO (.call f_has [(.op2 .idx (.var 0) (.var 3)), (.var 4)]))))]⟩
def B_breaks_it : Fn := ⟨[.va, .va, .va], 7, -- tie word things x y z w
  [.iff (.op2 .mem (.var 1) (.tup [(.con (.str "refl")), (.con (.str "irr")), (.con (.str "serial")), (.con (.str "inv"))]))
     [.ret (.call f_breaks_thing [(.var 0), (.var 1), (.op2 .idx (.var 2) (.con (.int 0)))])]
     [],
   .iff (.op2 .eq (.var 1) (.con (.str "ferr")))
     [.unp [3, 4, 5, 6] (.var 2),
      .ret (.and (.call f_has [(.op2 .idx (.var 0) (.var 3)), (.var 4)]) (.and (.call f_has [(.op2 .idx (.var 0) (.var 5)), (.var 6)]) (.and (.op1 .notO (.call f_has [(.op2 .idx (.var 0) (.var 3)), (.var 6)])) (.op1 .notO (.call f_has [(.op2 .idx (.var 0) (.var 5)), (.var 4)])))))]
     [],
   .iff (.op2 .eq (.op1 .len (.var 2)) (.con (.int 2)))
     [.ret (.call f_breaks_two [(.var 0), (.var 1), (.op2 .idx (.var 2) (.con (.int 0))), (.op2 .idx (.var 2) (.con (.int 1)))])]
     [],
   .ret (.call f_breaks_three [(.var 0), (.var 1), (.op2 .idx (.var 2) (.con (.int 0))), (.op2 .idx (.var 2) (.con (.int 1))), (.op2 .idx (.var 2) (.con (.int 2)))])]⟩
def B_rows_of : Fn := ⟨[.va, .va], 6, -- many size found _ row x
  [.set 2 (.lst [(.tup [])]),
   .fr (.nm 3) (.op1 .rng (.var 1))
     [.set 2 (.lc2 (.nm 4) (.var 2) (.nm 5) (.op1 .rng (.var 0)) [] (.op2 .add (.var 4) (.tup [(.var 5)])) [4, 5] [5])],
   .ret (.var 2)]⟩
def B_found_round : Fn := ⟨[.va], 5, -- tie ways rounds x walk
  [.set 1 (.lc (.nm 3) (.op1 .rng (.op1 .len (.var 0))) [] (.call f_way_between [(.var 0), (.var 3), (.var 3)]) [3]),
   .set 2 (.op1 .sorted (.lc (.nm 4) (.var 1) [(.op1 .notN (.var 4))] (.tup [(.op1 .len (.var 4)), (.var 4)]) [4])),
   .ret (.ite (.op2 .gt (.op1 .len (.var 2)) (.con (.int 0))) (.op2 .upto (.op2 .idx (.op2 .idx (.var 2) (.con (.int 0))) (.con (.int 1))) (.op1 .neg (.con (.int 1)))) (.con (.non)))]⟩
def B_found_objection : Fn := ⟨[.va, .va], 4, -- tie word things found
  [.iff (.op2 .eq (.var 1) (.con (.str "acyc")))
     [.set 3 (.call f_found_round [(.var 0)]),
      .ret (.ite (.op1 .isN (.var 3)) (.con (.non)) (.tup [(.var 1), (.var 3)]))]
     [],
   .fr (.nm 2) (.call f_rows_of [(.op1 .len (.var 0)), (.dget t_PLACES (.var 1))])
     [.iff (.call f_breaks_it [(.var 0), (.var 1), (.var 2)])
        [.ret (.op2 .add (.tup [(.var 1)]) (.var 2))]
        []],
   .ret (.con (.non))]⟩
def B_objection : Fn := ⟨[.va, .va], 2, -- tie word
  [.drop (.call f_check_tie [(.var 0)]),
   .drop (.call f_check_word [(.var 1)]),
   .ret (.call f_found_objection [(.var 0), (.var 1)])]⟩
def B_judged_round : Fn := ⟨[.va, .va], 4, -- tie value x y
  [.iff (.or (.op1 .notO (.op1 (.isK .tuple) (.var 1))) (.or (.op2 .eq (.op1 .len (.var 1)) (.con (.int 0))) (.op1 .notO (.op1 .all (.lc (.nm 2) (.var 1) [] (.call f_is_thing [(.var 0), (.var 2)]) [2])))))
     [.ret (.con (.bl false))]
     [],
   .iff (.op2 .ne (.op1 .lenSet (.var 1)) (.op1 .len (.var 1)))
     [.ret (.con (.bl false))]
     [],
   .ret (.op1 .all (.lc (.tp [2, 3]) (.op2 .zip (.var 1) (.op2 .add (.op2 .from (.var 1) (.con (.int 1))) (.op2 .upto (.var 1) (.con (.int 1))))) [] (.call f_has [(.op2 .idx (.var 0) (.var 2)), (.var 3)]) [2, 3]))]⟩
def B_takes_objection : Fn := ⟨[.va, .va], 5, -- tie value word told x
  [.drop (.call f_check_tie [(.var 0)]),
   .iff (.or (.op1 .notO (.op1 (.isK .tuple) (.var 1))) (.or (.op2 .lt (.op1 .len (.var 1)) (.con (.int 2))) (.or (.op1 .notO (.op1 (.isK .str) (.op2 .idx (.var 1) (.con (.int 0))))) (.op2 .nmem (.op2 .idx (.var 1) (.con (.int 0))) (.gl g_WORDS)))))
     [.ret (.con (.bl false))]
     [],
   .par [(2, false), (3, false)] [(.op2 .idx (.var 1) (.con (.int 0))), (.op2 .from (.var 1) (.con (.int 1)))],
   .iff (.op2 .eq (.var 2) (.con (.str "acyc")))
     [.ret (.and (.op2 .eq (.op1 .len (.var 3)) (.con (.int 1))) (.call f_judged_round [(.var 0), (.op2 .idx (.var 3) (.con (.int 0)))]))]
     [],
   .iff (.or (.op2 .ne (.op1 .len (.var 3)) (.dget t_PLACES (.var 2))) (.op1 .notO (.op1 .all (.lc (.nm 4) (.var 3) [] (.call f_is_thing [(.var 0), (.var 4)]) [4]))))
     [.ret (.con (.bl false))]
     [],
   .ret (.call f_breaks_it [(.var 0), (.var 2), (.var 3)])]⟩
def B_law_draw : Fn := ⟨[.va], 3, -- script seed cell
  [.set 1 (.con (.int 7)),
   .fr (.nm 2) (.var 0)
     [.set 1 (.op2 .mod (.op1 .int (.op2 .add (.op2 .add (.op2 .mul (.var 1) (.con (.int 48271))) (.op2 .mod (.op1 .abs (.op1 .int (.var 2))) (.con (.int 65521)))) (.con (.int 1)))) (.con (.int 2147483647)))],
   .ret (.lst [(.lc (.nm 2) (.var 0) [] (.op1 .abs (.op1 .int (.var 2))) [2]), (.op1 .neg (.con (.int 1))), (.con (.int 0)), (.var 1)])]⟩
def B_law_take : Fn := ⟨[.io, .va], 3, -- draw many found
  [.iff (.op2 .eq (.op2 .idx (.brw 0) (.con (.int 2))) (.con (.int 0)))
     [.stI 0 [] (.con (.int 1)) (.op2 .add (.op2 .idx (.brw 0) (.con (.int 1))) (.con (.int 1))),
      .iff (.op2 .lt (.op2 .idx (.brw 0) (.con (.int 1))) (.op2 .lenAt (.brw 0) (.con (.int 0))))
        [.stI 0 [] (.con (.int 2)) (.op3 .idx2 (.brw 0) (.con (.int 0)) (.op2 .idx (.brw 0) (.con (.int 1))))]
        [],
      .iff (.op2 .eq (.op2 .idx (.brw 0) (.con (.int 2))) (.con (.int 0)))
        [.stI 0 [] (.con (.int 3)) (.op2 .mod (.op1 .int (.op2 .add (.op2 .mul (.op2 .idx (.brw 0) (.con (.int 3))) (.con (.int 48271))) (.con (.int 11)))) (.con (.int 2147483647))),
         .stI 0 [] (.con (.int 2)) (.op2 .idx (.brw 0) (.con (.int 3)))]
        []]
     [],
   .set 2 (.op2 .mod (.op1 .int (.op2 .idx (.brw 0) (.con (.int 2)))) (.var 1)),
   .stI 0 [] (.con (.int 2)) (.op2 .fdiv (.op2 .idx (.brw 0) (.con (.int 2))) (.var 1)),
   .ret (.var 2)]⟩
def B_law_says : Fn := ⟨[.va, .va], 2, -- value due
  [.ret (.and (.op1 (.isK .bool) (.var 0)) (.op2 .eq (.var 0) (.var 1)))]⟩
def B_law_words : Fn := ⟨[], 0, -- 
  [.ret (.op1 (.split " ") (.con (.str "refl irr sym asym anti trans neg total conn serial inv eucl func acyc ferr ident full one")))]⟩
def B_law_order : Fn := ⟨[.io, .va], 4, -- draw many left order
  [.par [(2, true), (3, true)] [(.op1 .lrg (.var 1)), (.lst [])],
   .wh (.op2 .ne (.brw 2) (.lst []))
     [.app 3 (.pop 2 [(.call f_law_take [(.brw 0), (.op1 .len (.brw 2))])])],
   .ret (.mov 3)]⟩
def B_law_styled : Fn := ⟨[.io, .va, .va], 11, -- draw style many level order thick found x row y any_truth
  [.set 3 (.lc (.nm 7) (.op1 .rng (.var 2)) [] (.call f_law_take [(.brw 0), (.var 2)]) [7]),
   .set 4 (.call f_law_order [(.brw 0), (.var 2)]),
   .set 5 (.op2 .add (.con (.int 1)) (.call f_law_take [(.brw 0), (.con (.int 3))])),
   .own 6 (.lst []),
   .fr (.nm 7) (.op1 .rng (.var 2))
     [.own 8 (.lst []),
      .fr (.nm 9) (.op1 .rng (.var 2))
        [.set 10 (.op2 .lt (.call f_law_take [(.brw 0), (.con (.int 4))]) (.var 5)),
         .iff (.op2 .mem (.var 1) (.lst [(.con (.int 1)), (.con (.int 2)), (.con (.int 3))]))
           [.app 8 (.op2 .idx (.lst [(.op2 .gt (.op2 .idx (.var 3) (.var 7)) (.op2 .idx (.var 3) (.var 9))), (.op2 .ge (.op2 .idx (.var 3) (.var 7)) (.op2 .idx (.var 3) (.var 9))), (.op2 .gt (.op2 .idx (.var 3) (.var 7)) (.op2 .add (.op2 .idx (.var 3) (.var 9)) (.con (.int 1))))]) (.op2 .sub (.var 1) (.con (.int 1))))]
           [.iff (.op2 .eq (.var 1) (.con (.int 4)))
              [.app 8 (.op2 .eq (.op2 .idx (.var 3) (.var 7)) (.op2 .idx (.var 3) (.var 9)))]
              [.iff (.op2 .eq (.var 1) (.con (.int 5)))
                 [.app 8 (.or (.op2 .eq (.op2 .idx (.var 4) (.var 7)) (.var 9)) (.and (.op2 .eq (.var 5) (.con (.int 1))) (.op2 .eq (.var 7) (.var 9))))]
                 [.iff (.op2 .eq (.var 1) (.con (.int 6)))
                    [.app 8 (.or (.op2 .eq (.var 7) (.var 9)) (.and (.op2 .eq (.var 5) (.con (.int 1))) (.and (.var 10) (.op2 .lt (.op2 .idx (.var 4) (.var 7)) (.op2 .idx (.var 4) (.var 9))))))]
                    [.iff (.op2 .eq (.var 1) (.con (.int 7)))
                       [.app 8 (.and (.op2 .lt (.op2 .idx (.var 4) (.var 7)) (.op2 .idx (.var 4) (.var 9))) (.or (.var 10) (.op2 .gt (.var 5) (.con (.int 1)))))]
                       [.app 8 (.var 10)]]]]]],
      .app 6 (.mov 8)],
   .ret (.mov 6)]⟩
def B_law_tie : Fn := ⟨[.io, .va], 8, -- draw most many found mend k x y
  [.set 2 (.op2 .add (.con (.int 1)) (.call f_law_take [(.brw 0), (.var 1)])),
   .own 3 (.call f_law_styled [(.brw 0), (.call f_law_take [(.brw 0), (.con (.int 12))]), (.var 2)]),
   .set 4 (.call f_law_take [(.brw 0), (.con (.int 9))]),
   .fr (.nm 5) (.op1 .rng (.var 2))
     [.iff (.op2 .mem (.var 4) (.lst [(.con (.int 1)), (.con (.int 2))]))
        [.stI 3 [(.var 5)] (.var 5) (.op2 .eq (.var 4) (.con (.int 1)))]
        [],
      .fr (.nm 6) (.op1 .rng (.var 2))
        [.iff (.op2 .eq (.var 4) (.con (.int 3)))
           [.stI 3 [(.var 6)] (.var 5) (.or (.op3 .idx2 (.brw 3) (.var 6) (.var 5)) (.op3 .idx2 (.brw 3) (.var 5) (.var 6)))]
           [],
         .fr (.nm 7) (.op1 .rng (.var 2))
           [.iff (.and (.op2 .mem (.var 4) (.lst [(.con (.int 4)), (.con (.int 5))])) (.and (.op3 .idx2 (.brw 3) (.var 6) (.var 5)) (.op3 .idx2 (.brw 3) (.var 5) (.var 7))))
              [.stI 3 [(.var 6)] (.var 7) (.con (.bl true))]
              []]]],
   .fr (.nm 5) (.op1 .rng (.var 2))
     [.iff (.op2 .eq (.var 4) (.con (.int 5)))
        [.stI 3 [(.var 5)] (.var 5) (.con (.bl true))]
        []],
   .iff (.op2 .eq (.var 4) (.con (.int 6)))
     [.par [(6, false), (7, false)] [(.call f_law_take [(.brw 0), (.var 2)]), (.call f_law_take [(.brw 0), (.var 2)])],
      .stI 3 [(.var 6)] (.var 7) (.op1 .notO (.op3 .idx2 (.brw 3) (.var 6) (.var 7)))]
     [],
   .ret (.op1 .tuple (.lc (.nm 6) (.op1 .rng (.var 2)) [] (.op1 .sum (.lc (.nm 7) (.op1 .rng (.var 2)) [(.op3 .idx2 (.brw 3) (.var 6) (.var 7))] (.op2 .shl (.con (.int 1)) (.var 7)) [7])) [6]))]⟩
def B_law_has : Fn := ⟨[.va, .va, .va], 3, -- t x y
  [.ret (.op2 .eq (.op2 .band (.op2 .shr (.op2 .idx (.var 0) (.var 1)) (.var 2)) (.con (.int 1))) (.con (.int 1)))]⟩
def B_law_ahead : Fn := ⟨[.va, .va], 6, -- t x found turn y z
  [.set 2 (.lc (.nm 4) (.op1 .rng (.op1 .len (.var 0))) [(.call f_law_has [(.var 0), (.var 1), (.var 4)])] (.var 4) [4]),
   .fr (.nm 3) (.op1 .rng (.op1 .len (.var 0)))
     [.set 2 (.lc (.nm 4) (.op1 .rng (.op1 .len (.var 0))) [(.or (.op2 .mem (.var 4) (.var 2)) (.op1 .any (.lc (.nm 5) (.var 2) [] (.call f_law_has [(.var 0), (.var 5), (.var 4)]) [5])))] (.var 4) [4])],
   .ret (.var 2)]⟩
def B_law_count : Fn := ⟨[.va], 1, -- word
  [.iff (.op2 .mem (.var 0) (.lst [(.con (.str "refl")), (.con (.str "irr")), (.con (.str "serial")), (.con (.str "inv"))]))
     [.ret (.con (.int 1))]
     [],
   .iff (.op2 .mem (.var 0) (.lst [(.con (.str "trans")), (.con (.str "neg")), (.con (.str "eucl")), (.con (.str "func"))]))
     [.ret (.con (.int 3))]
     [],
   .ret (.ite (.op2 .eq (.var 0) (.con (.str "ferr"))) (.con (.int 4)) (.con (.int 2)))]⟩
def B_law_bad : Fn := ⟨[.va, .va, .va], 9, -- t word row mid x y there back z
  [.par [(4, false), (5, false)] [(.op2 .idx (.var 2) (.con (.int 0))), (.op2 .idx (.var 2) (.op1 .neg (.con (.int 1))))],
   .par [(6, false), (7, false)] [(.call f_law_has [(.var 0), (.var 4), (.var 5)]), (.call f_law_has [(.var 0), (.var 5), (.var 4)])],
   .iff (.op2 .mem (.var 1) (.lst [(.con (.str "refl")), (.con (.str "irr"))]))
     [.ret (.op2 .eq (.var 6) (.op2 .eq (.var 1) (.con (.str "irr"))))]
     [],
   .iff (.op2 .eq (.var 1) (.con (.str "serial")))
     [.ret (.op2 .eq (.op2 .idx (.var 0) (.var 4)) (.con (.int 0)))]
     [],
   .iff (.op2 .eq (.var 1) (.con (.str "inv")))
     [.ret (.op1 .notO (.op1 .any (.lc (.nm 8) (.op1 .rng (.op1 .len (.var 0))) [] (.call f_law_has [(.var 0), (.var 8), (.var 4)]) [8])))]
     [],
   .iff (.op2 .mem (.var 1) (.lst [(.con (.str "sym")), (.con (.str "asym"))]))
     [.ret (.and (.var 6) (.op2 .eq (.var 7) (.op2 .eq (.var 1) (.con (.str "asym")))))]
     [],
   .iff (.op2 .mem (.var 1) (.lst [(.con (.str "anti")), (.con (.str "conn"))]))
     [.ret (.and (.op2 .ne (.var 4) (.var 5)) (.chain .eq .eq (.var 6) (.var 7) (.op2 .eq (.var 1) (.con (.str "anti")))))]
     [],
   .iff (.op2 .mem (.var 1) (.lst [(.con (.str "total")), (.con (.str "full"))]))
     [.ret (.and (.op1 .notO (.var 6)) (.or (.op2 .eq (.var 1) (.con (.str "full"))) (.op1 .notO (.var 7))))]
     [],
   .iff (.op2 .mem (.var 1) (.lst [(.con (.str "ident")), (.con (.str "one"))]))
     [.ret (.ite (.op2 .eq (.var 1) (.con (.str "ident"))) (.op2 .ne (.var 6) (.op2 .eq (.var 4) (.var 5))) (.op2 .nmem (.var 5) (.call f_law_ahead [(.var 0), (.var 4)])))]
     [],
   .iff (.op2 .eq (.var 1) (.con (.str "ferr")))
     [.ret (.and (.call f_law_has [(.var 0), (.var 4), (.op2 .idx (.var 2) (.con (.int 1)))]) (.and (.call f_law_has [(.var 0), (.op2 .idx (.var 2) (.con (.int 2))), (.var 5)]) (.and (.op1 .notO (.var 6)) (.op1 .notO (.call f_law_has [(.var 0), (.op2 .idx (.var 2) (.con (.int 2))), (.op2 .idx (.var 2) (.con (.int 1)))])))))]
     [],
   .set 3 (.op2 .idx (.var 2) (.con (.int 1))),
   .iff (.op2 .eq (.var 1) (.con (.str "neg")))
     [.ret (.and (.var 6) (.and (.op1 .notO (.call f_law_has [(.var 0), (.var 4), (.var 3)])) (.op1 .notO (.call f_law_has [(.var 0), (.var 3), (.var 5)]))))]
     [],
   .iff (.op2 .eq (.var 1) (.con (.str "trans")))
     [.ret (.and (.call f_law_has [(.var 0), (.var 4), (.var 3)]) (.and (.call f_law_has [(.var 0), (.var 3), (.var 5)]) (.op1 .notO (.var 6))))]
     [],
   .ret (.and (.call f_law_has [(.var 0), (.var 4), (.var 3)]) (.and (.var 6) (.ite (.op2 .eq (.var 1) (.con (.str "func"))) (.op2 .ne (.var 3) (.var 5)) (.op1 .notO (.call f_law_has [(.var 0), (.var 3), (.var 5)])))))]⟩
def B_law_thing : Fn := ⟨[.va, .va], 2, -- t value
  [.ret (.and (.op1 (.isK .int) (.var 1)) (.and (.op1 .notO (.op1 (.isK .bool) (.var 1))) (.chain .le .lt (.con (.int 0)) (.var 1) (.op1 .len (.var 0)))))]⟩
def B_law_right : Fn := ⟨[.va, .va], 7, -- t value word row ring x k
  [.iff (.or (.op1 .notO (.op1 (.isK .tuple) (.var 1))) (.or (.op2 .lt (.op1 .len (.var 1)) (.con (.int 2))) (.or (.op1 .notO (.op1 (.isK .str) (.op2 .idx (.var 1) (.con (.int 0))))) (.op2 .nmem (.op2 .idx (.var 1) (.con (.int 0))) (.call f_law_words [])))))
     [.ret (.con (.bl false))]
     [],
   .par [(2, false), (3, false)] [(.op2 .idx (.var 1) (.con (.int 0))), (.op2 .from (.var 1) (.con (.int 1)))],
   .iff (.op2 .eq (.var 2) (.con (.str "acyc")))
     [.set 4 (.op2 .idx (.var 3) (.con (.int 0))),
      .iff (.or (.op2 .ne (.op1 .len (.var 3)) (.con (.int 1))) (.or (.op1 .notO (.op1 (.isK .tuple) (.var 4))) (.or (.op2 .eq (.var 4) (.tup [])) (.op1 .notO (.op1 .all (.lc (.nm 5) (.var 4) [] (.call f_law_thing [(.var 0), (.var 5)]) [5]))))))
        [.ret (.con (.bl false))]
        [],
      .ret (.and (.op2 .eq (.op1 .lenSet (.var 4)) (.op1 .len (.var 4))) (.op1 .all (.lc (.nm 6) (.op1 .rng (.op1 .len (.var 4))) [] (.call f_law_has [(.var 0), (.op2 .idx (.var 4) (.op2 .sub (.var 6) (.con (.int 1)))), (.op2 .idx (.var 4) (.var 6))]) [6])))]
     [],
   .ret (.and (.op2 .eq (.op1 .len (.var 3)) (.call f_law_count [(.var 2)])) (.and (.op1 .all (.lc (.nm 5) (.var 3) [] (.call f_law_thing [(.var 0), (.var 5)]) [5])) (.call f_law_bad [(.var 0), (.var 2), (.var 3)])))]⟩
def B_law_bent : Fn := ⟨[.io, .va], 3, -- draw data at
  [.iff (.and (.op1 (.isK .tuple) (.var 1)) (.and (.op2 .gt (.op1 .len (.var 1)) (.con (.int 0))) (.op2 .gt (.call f_law_take [(.brw 0), (.con (.int 4))]) (.con (.int 0)))))
     [.set 2 (.call f_law_take [(.brw 0), (.op1 .len (.var 1))]),
      .ret (.op2 .add (.op2 .add (.op2 .upto (.var 1) (.var 2)) (.tup [(.call f_law_bent [(.brw 0), (.op2 .idx (.var 1) (.var 2))])])) (.op2 .from (.var 1) (.op2 .add (.var 2) (.con (.int 1)))))]
     [],
   .iff (.op1 (.isK .tuple) (.var 1))
     [.ret (.op2 .idx (.lst [(.op1 .list (.var 1)), (.op2 .add (.var 1) (.tup [(.con (.int 0))])), (.op2 .upto (.var 1) (.op1 .neg (.con (.int 1)))), (.op1 .rev (.var 1)), (.con (.non)), (.tup [])]) (.call f_law_take [(.brw 0), (.con (.int 6))]))]
     [],
   .iff (.op1 (.isK .str) (.var 1))
     [.ret (.op2 .idx (.lst [(.con (.str "order")), (.con (.str "row")), (.con (.str "to")), (.con (.str "sym")), (.con (.str "things"))]) (.call f_law_take [(.brw 0), (.con (.int 5))]))]
     [],
   .ret (.ite (.op1 (.isK .int) (.var 1)) (.op2 .idx (.lst [(.con (.int 0)), (.con (.int 1)), (.op2 .add (.var 1) (.con (.int 1))), (.op2 .sub (.var 1) (.con (.int 1))), (.op2 .eq (.var 1) (.con (.int 1))), (.con (.non)), (.con (.str "0")), (.tup [(.var 1)]), (.con (.int 12))]) (.call f_law_take [(.brw 0), (.con (.int 9))])) (.con (.int 0)))]⟩
def B_law_raises : Fn := ⟨[.va], 1, -- value
  [.tr [.drop (.call f_takes_objection [(.var 0), (.tup [(.con (.str "refl")), (.con (.int 0))])])]
     [(c_Malformed, none, [.ret (.con (.bl true))])],
   .ret (.con (.bl false))]⟩
def B_law : Fn := ⟨[.va], 12, -- script draw t word value many values told row ring bad k
  [.own 1 (.call f_law_draw [(.var 0)]),
   .set 2 (.call f_law_tie [(.brw 1), (.con (.int 5))]),
   .par [(5, false), (6, false)] [(.op2 .add (.op1 .len (.var 2)) (.con (.int 1))), (.lst [])],
   .fr (.nm 3) (.call f_law_words [])
     [.set 7 (.call f_objection [(.var 2), (.var 3)]),
      .iff (.op1 .notN (.var 7))
        [.set 6 (.op2 .add (.var 6) (.lst [(.var 7), (.call f_law_bent [(.brw 1), (.var 7)]), (.call f_law_bent [(.brw 1), (.var 7)]), (.op2 .upto (.var 7) (.op1 .neg (.con (.int 1)))), (.op2 .add (.var 7) (.tup [(.con (.int 0))])), (.op1 .list (.var 7))]))]
        [],
      .set 8 (.op1 .tuple (.lc (.nm 11) (.op1 .rng (.con (.int 5))) [] (.call f_law_take [(.brw 1), (.var 5)]) [11])),
      .set 9 (.op2 .upto (.op1 .tuple (.call f_law_order [(.brw 1), (.op1 .len (.var 2))])) (.op2 .add (.con (.int 1)) (.call f_law_take [(.brw 1), (.con (.int 4))]))),
      .set 6 (.op2 .add (.var 6) (.lst [(.tup [(.var 3)]), (.op2 .add (.tup [(.var 3)]) (.op2 .upto (.var 8) (.con (.int 1)))), (.op2 .add (.tup [(.var 3)]) (.op2 .upto (.var 8) (.con (.int 2)))), (.op2 .add (.tup [(.var 3)]) (.op2 .upto (.var 8) (.con (.int 3)))), (.op2 .add (.tup [(.var 3)]) (.op2 .upto (.var 8) (.con (.int 4)))), (.op2 .add (.tup [(.var 3)]) (.var 8)), (.tup [(.var 3), (.op2 .idx (.var 8) (.con (.int 0))), (.op2 .idx (.var 8) (.con (.int 0)))]), (.tup [(.var 3), (.con (.bl true))]), (.tup [(.var 3), (.con (.non))])])),
      .set 6 (.op2 .add (.var 6) (.lst [(.tup [(.var 3), (.var 9)]), (.tup [(.var 3), (.tup [])]), (.tup [(.var 3), (.op2 .idx (.var 8) (.con (.int 0))), (.op2 .idx (.var 8) (.con (.int 1))), (.op2 .idx (.var 8) (.con (.int 1)))]), (.tup [(.var 3), (.op2 .idx (.var 8) (.con (.int 0))), (.op2 .idx (.var 8) (.con (.int 1))), (.op2 .idx (.var 8) (.con (.int 0)))]), (.tup [(.var 3), (.op2 .add (.var 9) (.op2 .upto (.var 9) (.con (.int 1))))]), (.tup [(.var 3), (.op2 .upto (.var 8) (.con (.int 2)))])]))],
   .fr (.nm 4) (.op2 .add (.var 6) (.lst [(.con (.non)), (.tup []), (.con (.str "refl")), (.lst [(.con (.str "refl")), (.con (.int 0))]), (.tup [(.con (.str "none")), (.con (.int 0))]), (.tup [(.con (.int 5)), (.con (.int 0))]), (.tup [(.con (.str "acyc")), (.lst [(.con (.int 0))])]), (.tup [(.con (.str "ferr")), (.con (.int 0)), (.con (.int 0)), (.con (.int 0)), (.con (.str "0"))])]))
     [.iff (.op1 .notO (.call f_law_says [(.call f_takes_objection [(.var 2), (.var 4)]), (.call f_law_right [(.var 2), (.var 4)])]))
        [.ret (.con (.bl false))]
        []],
   .ret (.op1 .all (.lc (.nm 10) (.lst [(.con (.non)), (.tup []), (.tup [(.con (.int 2))]), (.tup [(.op1 .neg (.con (.int 1)))]), (.lst [(.con (.int 1))]), (.tup [(.con (.bl true))]), (.tup [(.con (.int 0)), (.con (.int 4))]), (.tup [(.con (.str "0"))]), (.op2 .mul (.tup [(.con (.int 0))]) (.con (.int 7))), (.con (.int 0))]) [] (.call f_law_raises [(.var 10)]) [10]))]⟩
def tx : Tx := ⟨((["is_whole", "has", "things_in", "is_tie", "check_tie", "is_thing", "led_to", "way_between", "check_word", "breaks_thing", "breaks_two", "breaks_three", "breaks_it", "rows_of", "found_round", "found_objection", "objection", "judged_round", "takes_objection", "_law_draw", "_law_take", "_law_says", "_law_words", "_law_order"] : List PySem.Str) ++ (["_law_styled", "_law_tie", "_law_has", "_law_ahead", "_law_count", "_law_bad", "_law_thing", "_law_right", "_law_bent", "_law_raises", "law"] : List PySem.Str)), ["MOST_THINGS", "WORDS"], ["Fault", "Malformed"], ["PLACES"]⟩
def sub (c d : Nat) : Bool := [(0, 0), (1, 0), (1, 1)].contains (c, d)
def G : Pg := ⟨[B_is_whole, B_has, B_things_in, B_is_tie, B_check_tie, B_is_thing, B_led_to, B_way_between, B_check_word, B_breaks_thing, B_breaks_two, B_breaks_three, B_breaks_it, B_rows_of, B_found_round, B_found_objection, B_objection, B_judged_round, B_takes_objection, B_law_draw, B_law_take, B_law_says, B_law_words, B_law_order, B_law_styled, B_law_tie, B_law_has, B_law_ahead, B_law_count, B_law_bad, B_law_thing, B_law_right, B_law_bent, B_law_raises, B_law], [k_MOST_THINGS, k_WORDS], [h_PLACES], sub⟩
def d_is_whole : Df := ⟨["value"], ["value"], [0], B_is_whole, top 4⟩
def d_has : Df := ⟨["items", "thing"], ["items", "thing"], [0, 1], B_has, top 7⟩
def d_things_in : Df := ⟨["items", "k"], ["items"], [0, 1], B_things_in, top 8⟩
def d_is_tie : Df := ⟨["value", "items"], ["value"], [0, 1], B_is_tie, top 9⟩
def d_check_tie : Df := ⟨["value"], ["value"], [0], B_check_tie, top 10⟩
def d_is_thing : Df := ⟨["tie", "value"], ["tie", "value"], [0, 1], B_is_thing, top 11⟩
def d_led_to : Df := ⟨["tie", "thing", "found", "place", "y"], ["tie", "thing"], [0, 1, 2, 3, 4], B_led_to, top 12⟩
def d_way_between : Df := ⟨["tie", "one", "two", "layer", "seen", "longer", "walk", "y"], ["tie", "one", "two"], [0, 1, 2, 3, 4, 5, 6, 7], B_way_between, top 13⟩
def d_check_word : Df := ⟨["word"], ["word"], [0], B_check_word, top 17⟩
def d_breaks_thing : Df := ⟨["tie", "word", "x", "items"], ["tie", "word", "x"], [0, 1, 2, 3], B_breaks_thing, top 18⟩
def d_breaks_two : Df := ⟨["tie", "word", "x", "y", "there", "back"], ["tie", "word", "x", "y"], [0, 1, 2, 3, 4, 5], B_breaks_two, top 19⟩
def d_breaks_three : Df := ⟨["tie", "word", "x", "y", "z"], ["tie", "word", "x", "y", "z"], [0, 1, 2, 3, 4], B_breaks_three, top 20⟩
def d_breaks_it : Df := ⟨["tie", "word", "things", "x", "y", "z", "w"], ["tie", "word", "things"], [0, 1, 2, 3, 4, 5, 6], B_breaks_it, top 21⟩
def d_rows_of : Df := ⟨["many", "size", "found", "_", "row", "x"], ["many", "size"], [0, 1, 2, 3, 4, 5], B_rows_of, top 22⟩
def d_found_round : Df := ⟨["tie", "ways", "rounds", "x", "walk"], ["tie"], [0, 1, 2, 3, 4], B_found_round, top 23⟩
def d_found_objection : Df := ⟨["tie", "word", "things", "found"], ["tie", "word"], [0, 1, 2, 3], B_found_objection, top 24⟩
def d_objection : Df := ⟨["tie", "word"], ["tie", "word"], [0, 1], B_objection, top 25⟩
def d_judged_round : Df := ⟨["tie", "value", "x", "y"], ["tie", "value"], [0, 1, 2, 3], B_judged_round, top 26⟩
def d_takes_objection : Df := ⟨["tie", "value", "word", "told", "x"], ["tie", "value"], [0, 1, 2, 3, 4], B_takes_objection, top 27⟩
def d_law_draw : Df := ⟨["script", "seed", "cell"], ["script"], [0, 1, 2], B_law_draw, top 29⟩
def d_law_take : Df := ⟨["draw", "many", "found"], ["draw", "many"], [1, 2], B_law_take, top 30⟩
def d_law_says : Df := ⟨["value", "due"], ["value", "due"], [0, 1], B_law_says, top 31⟩
def d_law_words : Df := ⟨[], [], [], B_law_words, top 32⟩
def d_law_order : Df := ⟨["draw", "many", "left", "order"], ["draw", "many"], [1, 2, 3], B_law_order, top 33⟩
def d_law_styled : Df := ⟨["draw", "style", "many", "level", "order", "thick", "found", "x", "row", "y", "any_truth"], ["draw", "style", "many"], [1, 2, 3, 4, 5, 6, 7, 8, 9, 10], B_law_styled, top 34⟩
def d_law_tie : Df := ⟨["draw", "most", "many", "found", "mend", "k", "x", "y"], ["draw", "most"], [1, 2, 3, 4, 5, 6, 7], B_law_tie, top 35⟩
def d_law_has : Df := ⟨["t", "x", "y"], ["t", "x", "y"], [0, 1, 2], B_law_has, top 36⟩
def d_law_ahead : Df := ⟨["t", "x", "found", "turn", "y", "z"], ["t", "x"], [0, 1, 2, 3, 4, 5], B_law_ahead, top 38⟩
def d_law_count : Df := ⟨["word"], ["word"], [0], B_law_count, top 39⟩
def d_law_bad : Df := ⟨["t", "word", "row", "mid", "x", "y", "there", "back", "z"], ["t", "word", "row"], [0, 1, 2, 3, 4, 5, 6, 7, 8], B_law_bad, top 40⟩
def d_law_thing : Df := ⟨["t", "value"], ["t", "value"], [0, 1], B_law_thing, top 42⟩
def d_law_right : Df := ⟨["t", "value", "word", "row", "ring", "x", "k"], ["t", "value"], [0, 1, 2, 3, 4, 5, 6], B_law_right, top 43⟩
def d_law_bent : Df := ⟨["draw", "data", "at"], ["draw", "data"], [1, 2], B_law_bent, top 44⟩
def d_law_raises : Df := ⟨["value"], ["value"], [0], B_law_raises, top 45⟩
def d_law : Df := ⟨["script", "draw", "t", "word", "value", "many", "values", "told", "row", "ring", "bad", "k"], ["script"], [0, 1, 2, 3, 4, 5, 6, 7, 8, 9, 10, 11], B_law, top 46⟩
def ds : List Df := [d_is_whole, d_has, d_things_in, d_is_tie, d_check_tie, d_is_thing, d_led_to, d_way_between, d_check_word, d_breaks_thing, d_breaks_two, d_breaks_three, d_breaks_it, d_rows_of, d_found_round, d_found_objection, d_objection, d_judged_round, d_takes_objection, d_law_draw, d_law_take, d_law_says, d_law_words, d_law_order, d_law_styled, d_law_tie, d_law_has, d_law_ahead, d_law_count, d_law_bad, d_law_thing, d_law_right, d_law_bent, d_law_raises, d_law]
/-! ### ties -/
def tieT (t : List Nat) : T := .tup (nums t)
/-- the set of a thing -/
def rowN (t : List Nat) (x : Nat) : Nat := t.getD x 0
def R (t : List Nat) (x y : Nat) : Bool := (rowN t x).testBit y
/-- a tie: so many things, and their sets -/
structure Tie (t : List Nat) : Prop where
  pos : 0 < t.length
  six : t.length ≤ 6
  lt : ∀ a ∈ t, a < 2 ^ t.length
theorem Tie.r_lt {t : List Nat} (h : Tie t) {x y : Nat} (hr : R t x y = true) : x < t.length ∧ y < t.length := by
  unfold R rowN at hr
  have hx : x < t.length := by
    rcases Nat.lt_or_ge x t.length with q | q
    · exact q
    · rw [show t.getD x 0 = 0 by simp [List.getD, List.getElem?_eq_none q]] at hr
      simp at hr
  refine ⟨hx, ?_⟩
  have e : t.getD x 0 = t[x] := by simp [List.getD, hx]
  rw [e] at hr
  rcases Nat.lt_or_ge y t.length with q | q
  · exact q
  · have h1 := h.lt _ (List.getElem_mem hx)
    have h2 : t[x] < 2 ^ y := Nat.lt_of_lt_of_le h1 (Nat.pow_le_pow_right (by omega) q)
    rw [Nat.testBit_lt_two_pow h2] at hr
    cases hr
theorem tie_get {t : List Nat} {x : Nat} (h : x < t.length) : t[x]? = some (rowN t x) := by
  rw [rowN, List.getD, List.getElem?_eq_getElem h]; rfl
/-- one step or more -/
inductive Reach (t : List Nat) : Nat → Nat → Prop
  | one {x y : Nat} (h : R t x y = true) : Reach t x y
  | more {x y z : Nat} (h : Reach t x y) (h2 : R t y z = true) : Reach t x z
open Classical in
noncomputable def reachB (t : List Nat) (x y : Nat) : Bool := decide (Reach t x y)
/-- how many things an objection names -/
def cntN (i : Nat) : Nat := if i ∈ [0, 1, 9, 10] then 1 else if i ∈ [5, 6, 11, 12] then 3 else if i = 14 then 4 else 2
/-- things that show that a word does not hold -/
noncomputable def badN (t : List Nat) (i : Nat) (row : List Nat) : Bool := match row with
  | [x] => if i = 0 then !R t x x else if i = 1 then R t x x else if i = 9 then decide (rowN t x = 0) else !((List.range t.length).any fun z => R t z x)
  | [x, y] => if i = 2 then R t x y && !R t y x else if i = 3 then R t x y && R t y x else if i = 4 then R t x y && R t y x && !decide (x = y) else if i = 7 then !R t x y && !R t y x else if i = 8 then !R t x y && !R t y x && !decide (x = y)
    else if i = 15 then R t x y != decide (x = y) else if i = 16 then !R t x y else !(reachB t x y)
  | [x, y, z] => if i = 6 then R t x z && !R t x y && !R t y z else if i = 5 then R t x y && R t y z && !R t x z else if i = 11 then R t x y && R t x z && !R t y z else R t x y && R t x z && !decide (y = z)
  | [x, y, z, w] => R t x y && R t z w && !R t x w && !R t z y
  | _ => false
theorem callF {f n : Nat} {F : Fn} {ts : List T} (hF : G.fns[f]? = some F) : call G (n + 1) f ts = runFn G (fun g us => call G n g us) F ts := by rw [call, hF]
section
variable {C : Nat → List T → CR} {t : List Nat}
theorem has_run (a y : Nat) : runFn G C B_has [.int a, .int y] = .ok (.bl (a.testBit y)) true [] := by
  have e := has_ev (G := G) (C := C) (A := .var 0) (B := .var 1) (s := [some (.int a, .sh), some (.int y, .sh)]) rfl rfl (varI rfl) (varI rfl)
  simp [runFn, B_has, enter, exs, ex1, e, Rv.fl, leave, outIo]
theorem law_has_run {x y : Nat} (hx : x < t.length) : runFn G C B_law_has [tieT t, .int x, .int y] = .ok (.bl (R t x y)) true [] := by
  have e0 : ev G C (.op2 .idx (.var 0) (.var 1)) [some (tieT t, .sh), some (.int x, .sh), some (.int y, .sh)] = .ok (.int (rowN t x), true) [some (tieT t, .sh), some (.int x, .sh), some (.int y, .sh)] := by
    simp [exs, ex1, ev, evs, evas, ag, E.asBrw, rd, put, Rv.bind, Rv.fl, fin1, fin2, Ag.get, Ag.isB, fin, O1.rk, O2.rk, Rk.own, T.tr, tieT, T.lf, nums_lf, o2, idxN (tie_get hx)]
  have e := has_ev (G := G) (C := C) (A := .op2 .idx (.var 0) (.var 1)) (B := .var 2) (s := [some (tieT t, .sh), some (.int x, .sh), some (.int y, .sh)]) rfl rfl e0 (varI rfl)
  simp [runFn, B_law_has, enter, exs, ex1, e, Rv.fl, leave, outIo, R]
def HasC (C : Nat → List T → CR) : Prop := ∀ a y : Nat, Cv C f_has [.int a, .int y] (.bl (a.testBit y)) true
def LedC (C : Nat → List T → CR) (t : List Nat) : Prop := ∀ x, x < t.length → ∃ l, Cv C f_led_to [tieT t, .int x] (.lst (nums l)) true ∧ ∀ y, y ∈ l ↔ Reach t x y
theorem lfT : Lf (tieT t) := Lf.nums
theorem idT {x : Nat} (h : x < t.length) : V2 .idx (tieT t) (.int x) (.int (rowN t x)) := V2.idxN (tie_get h)
local macro_rules | `(tactic| walk_at "lfgo") => `(tactic| first | exact Lf.int | exact Lf.bl | exact Lf.nums | exact lfT | exact Lf.non | exact Lf.str | exact Lf.wd (by first | decide | assumption) | assumption)
local macro_rules | `(tactic| walk_at "trT") => `(tactic| first | exact Tr.blT | (apply Tr.of; decide) | (apply Tr.of; rfl) | (apply Tr.of; simp only [*]; done) | (apply Tr.of; simp only [*]; rfl) | fail)
local macro_rules | `(tactic| walk_at "trF") => `(tactic| first | exact Tr.blF | (apply Tr.of; decide) | (apply Tr.of; rfl) | (apply Tr.of; simp only [*]; done) | (apply Tr.of; simp only [*]; rfl) | fail)
local macro_rules | `(tactic| walk_at "vgo") => `(tactic| first | exact V2.eqN | exact V2.eqI | exact V2.neN | exact V2.eqB | exact V2.neB | exact idT (by assumption) | exact ix0 | exact ix1 | exact ix2 | exact ixL rfl | exact V1.neg1 | exact V2.lt | exact V2.le | exact V2.gt | exact V2.ge | exact V1.lenN | exact V1.lenNl | exact V1.isTup | exact V1.isInt | exact V1.isBoolI | exact V1.isBoolB | exact V1.isNn | exact V1.isNt | exact V1.notNn | exact V1.notNt | exact V1.isStr (by first | decide | assumption) | exact Mm.nm | exact Mm.nmt | exact q0 (by decide) | exact q1 (by decide) | exact q2 (by decide) | exact q3 (by decide) | exact q4 (by decide) | exact q5 (by decide) | exact q6 (by decide) | exact q7 (by decide) | exact q8 (by decide) | exact q9 (by decide) | exact q10 (by decide) | exact q11 (by decide) | exact q12 (by decide) | exact q13 (by decide) | exact q14 (by decide) | exact q15 (by decide) | exact q16 (by decide) | exact q17 (by decide) | exact r_tup_asym_anti (by decide) | exact r_tup_total_conn (by decide) | exact r_tup_refl_irr_serial_inv (by decide) | exact r_lst_refl_irr_serial_inv (by decide) | exact r_lst_trans_neg_eucl_func (by decide) | exact r_lst_refl_irr (by decide) | exact r_lst_sym_asym (by decide) | exact r_lst_anti_conn (by decide) | exact r_lst_total_full (by decide) | exact r_lst_ident_one (by decide) | apply V2.mem | apply V2.nmem | fail)
local macro_rules | `(tactic| walk_at "ev1") => `(tactic| first | exact Ev.con | assumption | exact Ev.var rfl (by walk_at "lfgo") | exact Ev.varL rfl | apply Ev.and | apply Ev.or | apply Ev.chain | apply Ev.not rfl | apply Ev.call1 rfl rfl rfl | apply Ev.call2 rfl rfl rfl rfl | apply Ev.call3 rfl rfl rfl rfl rfl | apply Ev.call4 rfl rfl rfl rfl rfl rfl | apply Ev.call5 rfl rfl rfl rfl rfl rfl rfl | apply Ev.call0 rfl rfl | walk_at "ite" | apply Ev.one rfl | apply Ev.two rfl rfl | exact Ev.tup0 | exact Ev.lst0 | apply Ev.tup1 | apply Ev.tup2 | apply Ev.tup4 | apply Ev.lst2 | apply Ev.lst3 | apply Ev.lst4 | walk_at "vgo" | apply_assumption | fail)
local macro_rules | `(tactic| walk_at "evgo") => `(tactic| repeat' (walk_at "ev1"))
local macro_rules | `(tactic| walk_at "ite") => `(tactic| first | (apply Ev.iteT; (· walk_at "evgo"); (· walk_at "trT")) | (apply Ev.iteF; (· walk_at "evgo"); (· walk_at "trF")) | fail)
local macro_rules | `(tactic| walk_at "st1") => `(tactic| first | exact Sts.nil | (apply Sts.rt; apply St.ret; walk_at "evgo") | (apply Sts.cons; (· (apply St.skip; (· walk_at "evgo"); (· walk_at "trF")))) | (apply Sts.rt; apply St.iffT; (· walk_at "evgo"); (· walk_at "trT")) | (apply Sts.cons; (· (apply St.set; (· walk_at "evgo")))) | (apply Sts.cons; (· (apply St.par2; (· walk_at "evgo"); (· walk_at "evgo"); (· rfl)))) | (apply Sts.cons; (· (apply St.unp; (· walk_at "evgo"); (· rfl)))) | fail)
local macro_rules | `(tactic| walk_at "stgo") => `(tactic| repeat' (walk_at "st1"))
theorem mem_reach {x y : Nat} {l : List Nat} (h : ∀ y, y ∈ l ↔ Reach t x y) : decide (y ∈ l) = reachB t x y := by
  unfold reachB
  by_cases q : y ∈ l
  · simp [q, (h y).mp q]
  · have h' : ¬ Reach t x y := fun z => q ((h y).mpr z)
    simp [q, h']
theorem inv_any {x : Nat} : ∀ t : List Nat, (nums t).any (fun z => match z with | .int i => i.toNat.testBit x | _ => false) = t.any fun a => a.testBit x
  | [] => rfl
  | a :: t => by
    show ((a : Int).toNat.testBit x || (nums t).any _) = _
    rw [inv_any t]; rfl
theorem any_rows {x : Nat} (t : List Nat) : (t.any fun a => a.testBit x) = (List.range t.length).any fun z => R t z x := by
  rw [Bool.eq_iff_iff, List.any_eq_true, List.any_eq_true]
  constructor
  · rintro ⟨a, ha, hb⟩
    obtain ⟨k, hk, e⟩ := List.mem_iff_getElem.mp ha
    refine ⟨k, by simpa using hk, ?_⟩
    have := tie_get hk
    rw [List.getElem?_eq_getElem hk, e] at this
    cases this
    exact hb
  · rintro ⟨k, hk, hb⟩
    have hk := List.mem_range.mp hk
    have := tie_get hk
    rw [List.getElem?_eq_getElem hk] at this
    exact ⟨t[k], List.getElem_mem hk, by injection this with e; rw [e]; exact hb⟩
theorem breaks_thing_run (hC : HasC C) (hT : Tie t) {i x : Nat} (hi : i ∈ [0, 1, 9, 10]) (hx : x < t.length) : runFn G C B_breaks_thing [tieT t, wd i, .int x] = .ok (.bl (badN t i [x])) true [] := by
  simp only [List.mem_cons, List.not_mem_nil, or_false] at hi
  rcases hi with e | e | e | e <;> subst e
  · apply run_b (F := B_breaks_thing) rfl (s0 := [some (tieT t, .sh), some (wd 0, .sh), some (.int x, .sh), none]) rfl
    · walk_at "stgo"
    · rfl
    · simp [badN, R]
  · apply run_b (F := B_breaks_thing) rfl (s0 := [some (tieT t, .sh), some (wd 1, .sh), some (.int x, .sh), none]) rfl
    · walk_at "stgo"
    · rfl
    · simp [badN, R]
  · apply run_b (F := B_breaks_thing) rfl (s0 := [some (tieT t, .sh), some (wd 9, .sh), some (.int x, .sh), none]) rfl
    · walk_at "stgo"
    · rfl
    · simp [badN, R]
  · have ea : Ev G C (.op1 .any (.lc (.nm 3) (.var 0) [] (.call f_has [(.var 3), (.var 2)]) [3])) [some (tieT t, .sh), some (wd 10, .sh), some (.int x, .sh), none] (.bl ((nums t).any fun z => match z with | .int i => i.toNat.testBit x | _ => false)) true [some (tieT t, .sh), some (wd 10, .sh), some (.int x, .sh), none] := by
      refine ⟨ev_any (o := true) (a := tieT t) (xs := nums t) (ag_of rfl (varE rfl (nums_lf t))) rfl rfl (fun z hz => ?_) (by rw [nums_len]; exact Nat.le_trans hT.six (by simp [LIM]))⟩
      obtain ⟨a, ha, rfl⟩ := List.mem_map.mp hz
      refine ⟨[some (tieT t, .sh), some (wd 10, .sh), some (.int x, .sh), some (.int a, .sh)], rfl, Ev.h ?_, rfl⟩
      walk_at "evgo"
    apply run_b (F := B_breaks_thing) rfl (s0 := [some (tieT t, .sh), some (wd 10, .sh), some (.int x, .sh), none]) rfl
    · walk_at "stgo"
    · rfl
    · rw [inv_any, any_rows]; simp [badN]
theorem breaks_two_run (hC : HasC C) (hL : LedC C t) {i x y : Nat} (hi : i ∈ [2, 3, 4, 7, 8, 15, 16, 17]) (hx : x < t.length) (hy : y < t.length) : runFn G C B_breaks_two [tieT t, wd i, .int x, .int y] = .ok (.bl (badN t i [x, y])) true [] := by
  obtain ⟨l, l1, l2⟩ := hL x hx
  have l3 := mem_reach (y := y) l2
  simp only [List.mem_cons, List.not_mem_nil, or_false] at hi
  rcases hi with e | e | e | e | e | e | e | e <;> subst e
  · apply run_b (F := B_breaks_two) rfl (s0 := [some (tieT t, .sh), some (wd 2, .sh), some (.int x, .sh), some (.int y, .sh), none, none]) rfl
    · walk_at "stgo"
    · rfl
    · first | (simp [badN, R, Bool.and_assoc, l3]; done) | (simp only [badN, R]; rfl)
  · apply run_b (F := B_breaks_two) rfl (s0 := [some (tieT t, .sh), some (wd 3, .sh), some (.int x, .sh), some (.int y, .sh), none, none]) rfl
    · walk_at "stgo"
    · rfl
    · first | (simp [badN, R, Bool.and_assoc, l3]; done) | (simp only [badN, R]; rfl)
  · apply run_b (F := B_breaks_two) rfl (s0 := [some (tieT t, .sh), some (wd 4, .sh), some (.int x, .sh), some (.int y, .sh), none, none]) rfl
    · walk_at "stgo"
    · rfl
    · first | (simp [badN, R, Bool.and_assoc, l3]; done) | (simp only [badN, R]; rfl)
  · apply run_b (F := B_breaks_two) rfl (s0 := [some (tieT t, .sh), some (wd 7, .sh), some (.int x, .sh), some (.int y, .sh), none, none]) rfl
    · walk_at "stgo"
    · rfl
    · first | (simp [badN, R, Bool.and_assoc, l3]; done) | (simp only [badN, R]; rfl)
  · apply run_b (F := B_breaks_two) rfl (s0 := [some (tieT t, .sh), some (wd 8, .sh), some (.int x, .sh), some (.int y, .sh), none, none]) rfl
    · walk_at "stgo"
    · rfl
    · first | (simp [badN, R, Bool.and_assoc, l3]; done) | (simp only [badN, R]; rfl)
  · apply run_b (F := B_breaks_two) rfl (s0 := [some (tieT t, .sh), some (wd 15, .sh), some (.int x, .sh), some (.int y, .sh), none, none]) rfl
    · walk_at "stgo"
    · rfl
    · first | (simp [badN, R, Bool.and_assoc, l3]; done) | (simp only [badN, R]; rfl)
  · apply run_b (F := B_breaks_two) rfl (s0 := [some (tieT t, .sh), some (wd 16, .sh), some (.int x, .sh), some (.int y, .sh), none, none]) rfl
    · walk_at "stgo"
    · rfl
    · first | (simp [badN, R, Bool.and_assoc, l3]; done) | (simp only [badN, R]; rfl)
  · apply run_b (F := B_breaks_two) rfl (s0 := [some (tieT t, .sh), some (wd 17, .sh), some (.int x, .sh), some (.int y, .sh), none, none]) rfl
    · walk_at "stgo"
    · rfl
    · first | (simp [badN, R, Bool.and_assoc, l3]; done) | (simp only [badN, R]; rfl)
theorem breaks_three_run (hC : HasC C) {i x y z : Nat} (hi : i ∈ [5, 6, 11, 12]) (hx : x < t.length) (hy : y < t.length) : runFn G C B_breaks_three [tieT t, wd i, .int x, .int y, .int z] = .ok (.bl (badN t i [x, y, z])) true [] := by
  simp only [List.mem_cons, List.not_mem_nil, or_false] at hi
  cases b1 : (rowN t x).testBit y <;> rcases hi with e | e | e | e <;> subst e
  · apply run_b (F := B_breaks_three) rfl (s0 := [some (tieT t, .sh), some (wd 5, .sh), some (.int x, .sh), some (.int y, .sh), some (.int z, .sh)]) rfl
    · walk_at "stgo"
    · rfl
    · simp [badN, R, b1, Bool.and_assoc]
  · apply run_b (F := B_breaks_three) rfl (s0 := [some (tieT t, .sh), some (wd 6, .sh), some (.int x, .sh), some (.int y, .sh), some (.int z, .sh)]) rfl
    · walk_at "stgo"
    · rfl
    · simp [badN, R, b1, Bool.and_assoc]
  · apply run_b (F := B_breaks_three) rfl (s0 := [some (tieT t, .sh), some (wd 11, .sh), some (.int x, .sh), some (.int y, .sh), some (.int z, .sh)]) rfl
    · walk_at "stgo"
    · rfl
    · simp [badN, R, b1, Bool.and_assoc]
  · apply run_b (F := B_breaks_three) rfl (s0 := [some (tieT t, .sh), some (wd 12, .sh), some (.int x, .sh), some (.int y, .sh), some (.int z, .sh)]) rfl
    · walk_at "stgo"
    · rfl
    · simp [badN, R, b1, Bool.and_assoc]
  · apply run_b (F := B_breaks_three) rfl (s0 := [some (tieT t, .sh), some (wd 5, .sh), some (.int x, .sh), some (.int y, .sh), some (.int z, .sh)]) rfl
    · walk_at "stgo"
    · rfl
    · simp [badN, R, b1, Bool.and_assoc]
  · apply run_b (F := B_breaks_three) rfl (s0 := [some (tieT t, .sh), some (wd 6, .sh), some (.int x, .sh), some (.int y, .sh), some (.int z, .sh)]) rfl
    · walk_at "stgo"
    · rfl
    · simp [badN, R, b1, Bool.and_assoc]
  · apply run_b (F := B_breaks_three) rfl (s0 := [some (tieT t, .sh), some (wd 11, .sh), some (.int x, .sh), some (.int y, .sh), some (.int z, .sh)]) rfl
    · walk_at "stgo"
    · rfl
    · simp [badN, R, b1, Bool.and_assoc]
  · apply run_b (F := B_breaks_three) rfl (s0 := [some (tieT t, .sh), some (wd 12, .sh), some (.int x, .sh), some (.int y, .sh), some (.int z, .sh)]) rfl
    · walk_at "stgo"
    · rfl
    · simp [badN, R, b1, Bool.and_assoc]
end

local macro_rules | `(tactic| walk_at "lfgo") => `(tactic| first | exact Lf.int | exact Lf.bl | exact Lf.nums | exact lfT | exact Lf.non | exact Lf.str | exact Lf.wd (by first | decide | assumption) | assumption)
local macro_rules | `(tactic| walk_at "trT") => `(tactic| first | exact Tr.blT | (apply Tr.of; decide) | (apply Tr.of; rfl) | (apply Tr.of; simp only [*]; done) | (apply Tr.of; simp only [*]; rfl) | fail)
local macro_rules | `(tactic| walk_at "trF") => `(tactic| first | exact Tr.blF | (apply Tr.of; decide) | (apply Tr.of; rfl) | (apply Tr.of; simp only [*]; done) | (apply Tr.of; simp only [*]; rfl) | fail)
local macro_rules | `(tactic| walk_at "vgo") => `(tactic| first | exact V2.eqN | exact V2.eqI | exact V2.neN | exact V2.eqB | exact V2.neB | exact idT (by assumption) | exact ix0 | exact ix1 | exact ix2 | exact ixL rfl | exact V1.neg1 | exact V2.lt | exact V2.le | exact V2.gt | exact V2.ge | exact V1.lenN | exact V1.lenNl | exact V1.isTup | exact V1.isInt | exact V1.isBoolI | exact V1.isBoolB | exact V1.isNn | exact V1.isNt | exact V1.notNn | exact V1.notNt | exact V1.isStr (by first | decide | assumption) | exact Mm.nm | exact Mm.nmt | exact q0 (by decide) | exact q1 (by decide) | exact q2 (by decide) | exact q3 (by decide) | exact q4 (by decide) | exact q5 (by decide) | exact q6 (by decide) | exact q7 (by decide) | exact q8 (by decide) | exact q9 (by decide) | exact q10 (by decide) | exact q11 (by decide) | exact q12 (by decide) | exact q13 (by decide) | exact q14 (by decide) | exact q15 (by decide) | exact q16 (by decide) | exact q17 (by decide) | exact r_tup_asym_anti (by decide) | exact r_tup_total_conn (by decide) | exact r_tup_refl_irr_serial_inv (by decide) | exact r_lst_refl_irr_serial_inv (by decide) | exact r_lst_trans_neg_eucl_func (by decide) | exact r_lst_refl_irr (by decide) | exact r_lst_sym_asym (by decide) | exact r_lst_anti_conn (by decide) | exact r_lst_total_full (by decide) | exact r_lst_ident_one (by decide) | apply V2.mem | apply V2.nmem | fail)
local macro_rules | `(tactic| walk_at "ev1") => `(tactic| first | exact Ev.con | assumption | exact Ev.var rfl (by walk_at "lfgo") | exact Ev.varL rfl | apply Ev.and | apply Ev.or | apply Ev.chain | apply Ev.not rfl | apply Ev.call1 rfl rfl rfl | apply Ev.call2 rfl rfl rfl rfl | apply Ev.call3 rfl rfl rfl rfl rfl | apply Ev.call4 rfl rfl rfl rfl rfl rfl | apply Ev.call5 rfl rfl rfl rfl rfl rfl rfl | apply Ev.call0 rfl rfl | walk_at "ite" | apply Ev.one rfl | apply Ev.two rfl rfl | exact Ev.tup0 | exact Ev.lst0 | apply Ev.tup1 | apply Ev.tup2 | apply Ev.tup4 | apply Ev.lst2 | apply Ev.lst3 | apply Ev.lst4 | walk_at "vgo" | apply_assumption | fail)
local macro_rules | `(tactic| walk_at "evgo") => `(tactic| repeat' (walk_at "ev1"))
local macro_rules | `(tactic| walk_at "ite") => `(tactic| first | (apply Ev.iteT; (· walk_at "evgo"); (· walk_at "trT")) | (apply Ev.iteF; (· walk_at "evgo"); (· walk_at "trF")) | fail)
local macro_rules | `(tactic| walk_at "st1") => `(tactic| first | exact Sts.nil | (apply Sts.rt; apply St.ret; walk_at "evgo") | (apply Sts.cons; (· (apply St.skip; (· walk_at "evgo"); (· walk_at "trF")))) | (apply Sts.rt; apply St.iffT; (· walk_at "evgo"); (· walk_at "trT")) | (apply Sts.cons; (· (apply St.set; (· walk_at "evgo")))) | (apply Sts.cons; (· (apply St.par2; (· walk_at "evgo"); (· walk_at "evgo"); (· rfl)))) | (apply Sts.cons; (· (apply St.unp; (· walk_at "evgo"); (· rfl)))) | fail)
local macro_rules | `(tactic| walk_at "stgo") => `(tactic| repeat' (walk_at "st1"))
def ThingC (C : Nat → List T → CR) (t : List Nat) : Prop := ∀ i x : Nat, i ∈ [0, 1, 9, 10] → x < t.length → Cv C f_breaks_thing [tieT t, wd i, .int x] (.bl (badN t i [x])) true
def TwoC (C : Nat → List T → CR) (t : List Nat) : Prop := ∀ i x y : Nat, i ∈ [2, 3, 4, 7, 8, 15, 16, 17] → x < t.length → y < t.length → Cv C f_breaks_two [tieT t, wd i, .int x, .int y] (.bl (badN t i [x, y])) true
def ThreeC (C : Nat → List T → CR) (t : List Nat) : Prop := ∀ i x y z : Nat, i ∈ [5, 6, 11, 12] → x < t.length → y < t.length → Cv C f_breaks_three [tieT t, wd i, .int x, .int y, .int z] (.bl (badN t i [x, y, z])) true
def LHasC (C : Nat → List T → CR) (t : List Nat) : Prop := ∀ x y : Nat, x < t.length → Cv C f_law_has [tieT t, .int x, .int y] (.bl (R t x y)) true
def AheadC (C : Nat → List T → CR) (t : List Nat) : Prop := ∀ x, x < t.length → ∃ l, Cv C f_law_ahead [tieT t, .int x] (.lst (nums l)) false ∧ ∀ y, y ∈ l ↔ Reach t x y
section
variable {C : Nat → List T → CR} {t : List Nat}
theorem it_0 (h1 : ThingC C t) {x : Nat} (hx : x < t.length) : runFn G C B_breaks_it [tieT t, wd 0, .tup (nums [x])] = .ok (.bl (badN t 0 [x])) true [] := by
  have c := h1 0 x (by decide) hx
  apply run_b (F := B_breaks_it) rfl (s0 := [some (tieT t, .sh), some (wd 0, .sh), some (.tup (nums [x]), .sh), none, none, none, none]) rfl
  · walk_at "stgo"
  · rfl
  · rfl
theorem it_1 (h1 : ThingC C t) {x : Nat} (hx : x < t.length) : runFn G C B_breaks_it [tieT t, wd 1, .tup (nums [x])] = .ok (.bl (badN t 1 [x])) true [] := by
  have c := h1 1 x (by decide) hx
  apply run_b (F := B_breaks_it) rfl (s0 := [some (tieT t, .sh), some (wd 1, .sh), some (.tup (nums [x]), .sh), none, none, none, none]) rfl
  · walk_at "stgo"
  · rfl
  · rfl
theorem it_2 (h2 : TwoC C t) {x y : Nat} (hx : x < t.length) (hy : y < t.length) : runFn G C B_breaks_it [tieT t, wd 2, .tup (nums [x, y])] = .ok (.bl (badN t 2 [x, y])) true [] := by
  have c := h2 2 x y (by decide) hx hy
  apply run_b (F := B_breaks_it) rfl (s0 := [some (tieT t, .sh), some (wd 2, .sh), some (.tup (nums [x, y]), .sh), none, none, none, none]) rfl
  · walk_at "stgo"
  · rfl
  · rfl
theorem it_3 (h2 : TwoC C t) {x y : Nat} (hx : x < t.length) (hy : y < t.length) : runFn G C B_breaks_it [tieT t, wd 3, .tup (nums [x, y])] = .ok (.bl (badN t 3 [x, y])) true [] := by
  have c := h2 3 x y (by decide) hx hy
  apply run_b (F := B_breaks_it) rfl (s0 := [some (tieT t, .sh), some (wd 3, .sh), some (.tup (nums [x, y]), .sh), none, none, none, none]) rfl
  · walk_at "stgo"
  · rfl
  · rfl
theorem it_4 (h2 : TwoC C t) {x y : Nat} (hx : x < t.length) (hy : y < t.length) : runFn G C B_breaks_it [tieT t, wd 4, .tup (nums [x, y])] = .ok (.bl (badN t 4 [x, y])) true [] := by
  have c := h2 4 x y (by decide) hx hy
  apply run_b (F := B_breaks_it) rfl (s0 := [some (tieT t, .sh), some (wd 4, .sh), some (.tup (nums [x, y]), .sh), none, none, none, none]) rfl
  · walk_at "stgo"
  · rfl
  · rfl
theorem it_5 (h3 : ThreeC C t) {x y z : Nat} (hx : x < t.length) (hy : y < t.length) (hz : z < t.length) : runFn G C B_breaks_it [tieT t, wd 5, .tup (nums [x, y, z])] = .ok (.bl (badN t 5 [x, y, z])) true [] := by
  have c := h3 5 x y z (by decide) hx hy
  apply run_b (F := B_breaks_it) rfl (s0 := [some (tieT t, .sh), some (wd 5, .sh), some (.tup (nums [x, y, z]), .sh), none, none, none, none]) rfl
  · walk_at "stgo"
  · rfl
  · rfl
theorem it_6 (h3 : ThreeC C t) {x y z : Nat} (hx : x < t.length) (hy : y < t.length) (hz : z < t.length) : runFn G C B_breaks_it [tieT t, wd 6, .tup (nums [x, y, z])] = .ok (.bl (badN t 6 [x, y, z])) true [] := by
  have c := h3 6 x y z (by decide) hx hy
  apply run_b (F := B_breaks_it) rfl (s0 := [some (tieT t, .sh), some (wd 6, .sh), some (.tup (nums [x, y, z]), .sh), none, none, none, none]) rfl
  · walk_at "stgo"
  · rfl
  · rfl
theorem it_7 (h2 : TwoC C t) {x y : Nat} (hx : x < t.length) (hy : y < t.length) : runFn G C B_breaks_it [tieT t, wd 7, .tup (nums [x, y])] = .ok (.bl (badN t 7 [x, y])) true [] := by
  have c := h2 7 x y (by decide) hx hy
  apply run_b (F := B_breaks_it) rfl (s0 := [some (tieT t, .sh), some (wd 7, .sh), some (.tup (nums [x, y]), .sh), none, none, none, none]) rfl
  · walk_at "stgo"
  · rfl
  · rfl
theorem it_8 (h2 : TwoC C t) {x y : Nat} (hx : x < t.length) (hy : y < t.length) : runFn G C B_breaks_it [tieT t, wd 8, .tup (nums [x, y])] = .ok (.bl (badN t 8 [x, y])) true [] := by
  have c := h2 8 x y (by decide) hx hy
  apply run_b (F := B_breaks_it) rfl (s0 := [some (tieT t, .sh), some (wd 8, .sh), some (.tup (nums [x, y]), .sh), none, none, none, none]) rfl
  · walk_at "stgo"
  · rfl
  · rfl
theorem it_9 (h1 : ThingC C t) {x : Nat} (hx : x < t.length) : runFn G C B_breaks_it [tieT t, wd 9, .tup (nums [x])] = .ok (.bl (badN t 9 [x])) true [] := by
  have c := h1 9 x (by decide) hx
  apply run_b (F := B_breaks_it) rfl (s0 := [some (tieT t, .sh), some (wd 9, .sh), some (.tup (nums [x]), .sh), none, none, none, none]) rfl
  · walk_at "stgo"
  · rfl
  · rfl
theorem it_10 (h1 : ThingC C t) {x : Nat} (hx : x < t.length) : runFn G C B_breaks_it [tieT t, wd 10, .tup (nums [x])] = .ok (.bl (badN t 10 [x])) true [] := by
  have c := h1 10 x (by decide) hx
  apply run_b (F := B_breaks_it) rfl (s0 := [some (tieT t, .sh), some (wd 10, .sh), some (.tup (nums [x]), .sh), none, none, none, none]) rfl
  · walk_at "stgo"
  · rfl
  · rfl
theorem it_11 (h3 : ThreeC C t) {x y z : Nat} (hx : x < t.length) (hy : y < t.length) (hz : z < t.length) : runFn G C B_breaks_it [tieT t, wd 11, .tup (nums [x, y, z])] = .ok (.bl (badN t 11 [x, y, z])) true [] := by
  have c := h3 11 x y z (by decide) hx hy
  apply run_b (F := B_breaks_it) rfl (s0 := [some (tieT t, .sh), some (wd 11, .sh), some (.tup (nums [x, y, z]), .sh), none, none, none, none]) rfl
  · walk_at "stgo"
  · rfl
  · rfl
theorem it_12 (h3 : ThreeC C t) {x y z : Nat} (hx : x < t.length) (hy : y < t.length) (hz : z < t.length) : runFn G C B_breaks_it [tieT t, wd 12, .tup (nums [x, y, z])] = .ok (.bl (badN t 12 [x, y, z])) true [] := by
  have c := h3 12 x y z (by decide) hx hy
  apply run_b (F := B_breaks_it) rfl (s0 := [some (tieT t, .sh), some (wd 12, .sh), some (.tup (nums [x, y, z]), .sh), none, none, none, none]) rfl
  · walk_at "stgo"
  · rfl
  · rfl
theorem it_14 (hC : HasC C) {x y z w : Nat} (hx : x < t.length) (hy : y < t.length) (hz : z < t.length) (hw : w < t.length) : runFn G C B_breaks_it [tieT t, wd 14, .tup (nums [x, y, z, w])] = .ok (.bl (badN t 14 [x, y, z, w])) true [] := by
  apply run_b (F := B_breaks_it) rfl (s0 := [some (tieT t, .sh), some (wd 14, .sh), some (.tup (nums [x, y, z, w]), .sh), none, none, none, none]) rfl
  · walk_at "stgo"
  · rfl
  · simp [badN, R, Bool.and_assoc]
theorem it_15 (h2 : TwoC C t) {x y : Nat} (hx : x < t.length) (hy : y < t.length) : runFn G C B_breaks_it [tieT t, wd 15, .tup (nums [x, y])] = .ok (.bl (badN t 15 [x, y])) true [] := by
  have c := h2 15 x y (by decide) hx hy
  apply run_b (F := B_breaks_it) rfl (s0 := [some (tieT t, .sh), some (wd 15, .sh), some (.tup (nums [x, y]), .sh), none, none, none, none]) rfl
  · walk_at "stgo"
  · rfl
  · rfl
theorem it_16 (h2 : TwoC C t) {x y : Nat} (hx : x < t.length) (hy : y < t.length) : runFn G C B_breaks_it [tieT t, wd 16, .tup (nums [x, y])] = .ok (.bl (badN t 16 [x, y])) true [] := by
  have c := h2 16 x y (by decide) hx hy
  apply run_b (F := B_breaks_it) rfl (s0 := [some (tieT t, .sh), some (wd 16, .sh), some (.tup (nums [x, y]), .sh), none, none, none, none]) rfl
  · walk_at "stgo"
  · rfl
  · rfl
theorem it_17 (h2 : TwoC C t) {x y : Nat} (hx : x < t.length) (hy : y < t.length) : runFn G C B_breaks_it [tieT t, wd 17, .tup (nums [x, y])] = .ok (.bl (badN t 17 [x, y])) true [] := by
  have c := h2 17 x y (by decide) hx hy
  apply run_b (F := B_breaks_it) rfl (s0 := [some (tieT t, .sh), some (wd 17, .sh), some (.tup (nums [x, y]), .sh), none, none, none, none]) rfl
  · walk_at "stgo"
  · rfl
  · rfl
theorem breaks_it_run (hC : HasC C) (h1 : ThingC C t) (h2 : TwoC C t) (h3 : ThreeC C t) {i : Nat} {row : List Nat} (hi : i < 18) (h13 : i ≠ 13) (hl : row.length = cntN i) (hr : ∀ x ∈ row, x < t.length) : runFn G C B_breaks_it [tieT t, wd i, .tup (nums row)] = .ok (.bl (badN t i row)) true [] := by
  obtain ⟨hi, e⟩ : i < 18 ∧ True := ⟨hi, trivial⟩
  have hx : i = 0 ∨ i = 1 ∨ i = 2 ∨ i = 3 ∨ i = 4 ∨ i = 5 ∨ i = 6 ∨ i = 7 ∨ i = 8 ∨ i = 9 ∨ i = 10 ∨ i = 11 ∨ i = 12 ∨ i = 14 ∨ i = 15 ∨ i = 16 ∨ i = 17 := by omega
  rcases hx with rfl | rfl | rfl | rfl | rfl | rfl | rfl | rfl | rfl | rfl | rfl | rfl | rfl | rfl | rfl | rfl | rfl
  · match row, hl, hr with
    | [x], _, hr => exact it_0 h1 (hr x (by simp))
  · match row, hl, hr with
    | [x], _, hr => exact it_1 h1 (hr x (by simp))
  · match row, hl, hr with
    | [x, y], _, hr => exact it_2 h2 (hr x (by simp)) (hr y (by simp))
  · match row, hl, hr with
    | [x, y], _, hr => exact it_3 h2 (hr x (by simp)) (hr y (by simp))
  · match row, hl, hr with
    | [x, y], _, hr => exact it_4 h2 (hr x (by simp)) (hr y (by simp))
  · match row, hl, hr with
    | [x, y, z], _, hr => exact it_5 h3 (hr x (by simp)) (hr y (by simp)) (hr z (by simp))
  · match row, hl, hr with
    | [x, y, z], _, hr => exact it_6 h3 (hr x (by simp)) (hr y (by simp)) (hr z (by simp))
  · match row, hl, hr with
    | [x, y], _, hr => exact it_7 h2 (hr x (by simp)) (hr y (by simp))
  · match row, hl, hr with
    | [x, y], _, hr => exact it_8 h2 (hr x (by simp)) (hr y (by simp))
  · match row, hl, hr with
    | [x], _, hr => exact it_9 h1 (hr x (by simp))
  · match row, hl, hr with
    | [x], _, hr => exact it_10 h1 (hr x (by simp))
  · match row, hl, hr with
    | [x, y, z], _, hr => exact it_11 h3 (hr x (by simp)) (hr y (by simp)) (hr z (by simp))
  · match row, hl, hr with
    | [x, y, z], _, hr => exact it_12 h3 (hr x (by simp)) (hr y (by simp)) (hr z (by simp))
  · match row, hl, hr with
    | [x, y, z, w], _, hr => exact it_14 hC (hr x (by simp)) (hr y (by simp)) (hr z (by simp)) (hr w (by simp))
  · match row, hl, hr with
    | [x, y], _, hr => exact it_15 h2 (hr x (by simp)) (hr y (by simp))
  · match row, hl, hr with
    | [x, y], _, hr => exact it_16 h2 (hr x (by simp)) (hr y (by simp))
  · match row, hl, hr with
    | [x, y], _, hr => exact it_17 h2 (hr x (by simp)) (hr y (by simp))
theorem bad_0 (hC : LHasC C t) {x : Nat} (hx : x < t.length) : runFn G C B_law_bad [tieT t, wd 0, .tup (nums [x])] = .ok (.bl (badN t 0 [x])) true [] := by
  apply run_b (F := B_law_bad) rfl (s0 := [some (tieT t, .sh), some (wd 0, .sh), some (.tup (nums [x]), .sh), none, none, none, none, none, none]) rfl
  · walk_at "stgo"
  · rfl
  · first | (simp [badN, Bool.and_assoc]; done) | (simp only [badN]; cases R t x x <;> rfl) | (simp only [badN]; cases R t x y <;> cases R t y x <;> simp) | (simp only [badN]; cases R t x y <;> cases R t x z <;> cases R t y z <;> simp) | (simp only [badN]; cases R t x y <;> cases R t z w <;> cases R t x w <;> cases R t z y <;> simp)
theorem bad_1 (hC : LHasC C t) {x : Nat} (hx : x < t.length) : runFn G C B_law_bad [tieT t, wd 1, .tup (nums [x])] = .ok (.bl (badN t 1 [x])) true [] := by
  apply run_b (F := B_law_bad) rfl (s0 := [some (tieT t, .sh), some (wd 1, .sh), some (.tup (nums [x]), .sh), none, none, none, none, none, none]) rfl
  · walk_at "stgo"
  · rfl
  · first | (simp [badN, Bool.and_assoc]; done) | (simp only [badN]; cases R t x x <;> rfl) | (simp only [badN]; cases R t x y <;> cases R t y x <;> simp) | (simp only [badN]; cases R t x y <;> cases R t x z <;> cases R t y z <;> simp) | (simp only [badN]; cases R t x y <;> cases R t z w <;> cases R t x w <;> cases R t z y <;> simp)
theorem bad_2 (hC : LHasC C t) {x y : Nat} (hx : x < t.length) (hy : y < t.length) : runFn G C B_law_bad [tieT t, wd 2, .tup (nums [x, y])] = .ok (.bl (badN t 2 [x, y])) true [] := by
  apply run_b (F := B_law_bad) rfl (s0 := [some (tieT t, .sh), some (wd 2, .sh), some (.tup (nums [x, y]), .sh), none, none, none, none, none, none]) rfl
  · walk_at "stgo"
  · rfl
  · first | (simp [badN, Bool.and_assoc]; done) | (simp only [badN]; cases R t x x <;> rfl) | (simp only [badN]; cases R t x y <;> cases R t y x <;> simp) | (simp only [badN]; cases R t x y <;> cases R t x z <;> cases R t y z <;> simp) | (simp only [badN]; cases R t x y <;> cases R t z w <;> cases R t x w <;> cases R t z y <;> simp)
theorem bad_3 (hC : LHasC C t) {x y : Nat} (hx : x < t.length) (hy : y < t.length) : runFn G C B_law_bad [tieT t, wd 3, .tup (nums [x, y])] = .ok (.bl (badN t 3 [x, y])) true [] := by
  apply run_b (F := B_law_bad) rfl (s0 := [some (tieT t, .sh), some (wd 3, .sh), some (.tup (nums [x, y]), .sh), none, none, none, none, none, none]) rfl
  · walk_at "stgo"
  · rfl
  · first | (simp [badN, Bool.and_assoc]; done) | (simp only [badN]; cases R t x x <;> rfl) | (simp only [badN]; cases R t x y <;> cases R t y x <;> simp) | (simp only [badN]; cases R t x y <;> cases R t x z <;> cases R t y z <;> simp) | (simp only [badN]; cases R t x y <;> cases R t z w <;> cases R t x w <;> cases R t z y <;> simp)
theorem anti_4 : ∀ p q d : Bool, (!d && ((p == q) && (q == true))) = (p && q && !d) := by decide
theorem bad_4 (hC : LHasC C t) {x y : Nat} (hx : x < t.length) (hy : y < t.length) : runFn G C B_law_bad [tieT t, wd 4, .tup (nums [x, y])] = .ok (.bl (badN t 4 [x, y])) true [] := by
  apply run_b (F := B_law_bad) rfl (s0 := [some (tieT t, .sh), some (wd 4, .sh), some (.tup (nums [x, y]), .sh), none, none, none, none, none, none]) rfl
  · walk_at "stgo"
  · rfl
  · exact anti_4 _ _ _
theorem bad_5 (hC : LHasC C t) {x y z : Nat} (hx : x < t.length) (hy : y < t.length) (hz : z < t.length) : runFn G C B_law_bad [tieT t, wd 5, .tup (nums [x, y, z])] = .ok (.bl (badN t 5 [x, y, z])) true [] := by
  apply run_b (F := B_law_bad) rfl (s0 := [some (tieT t, .sh), some (wd 5, .sh), some (.tup (nums [x, y, z]), .sh), none, none, none, none, none, none]) rfl
  · walk_at "stgo"
  · rfl
  · first | (simp [badN, Bool.and_assoc]; done) | (simp only [badN]; cases R t x x <;> rfl) | (simp only [badN]; cases R t x y <;> cases R t y x <;> simp) | (simp only [badN]; cases R t x y <;> cases R t x z <;> cases R t y z <;> simp) | (simp only [badN]; cases R t x y <;> cases R t z w <;> cases R t x w <;> cases R t z y <;> simp)
theorem bad_6 (hC : LHasC C t) {x y z : Nat} (hx : x < t.length) (hy : y < t.length) (hz : z < t.length) : runFn G C B_law_bad [tieT t, wd 6, .tup (nums [x, y, z])] = .ok (.bl (badN t 6 [x, y, z])) true [] := by
  apply run_b (F := B_law_bad) rfl (s0 := [some (tieT t, .sh), some (wd 6, .sh), some (.tup (nums [x, y, z]), .sh), none, none, none, none, none, none]) rfl
  · walk_at "stgo"
  · rfl
  · first | (simp [badN, Bool.and_assoc]; done) | (simp only [badN]; cases R t x x <;> rfl) | (simp only [badN]; cases R t x y <;> cases R t y x <;> simp) | (simp only [badN]; cases R t x y <;> cases R t x z <;> cases R t y z <;> simp) | (simp only [badN]; cases R t x y <;> cases R t z w <;> cases R t x w <;> cases R t z y <;> simp)
theorem bad_7 (hC : LHasC C t) {x y : Nat} (hx : x < t.length) (hy : y < t.length) : runFn G C B_law_bad [tieT t, wd 7, .tup (nums [x, y])] = .ok (.bl (badN t 7 [x, y])) true [] := by
  apply run_b (F := B_law_bad) rfl (s0 := [some (tieT t, .sh), some (wd 7, .sh), some (.tup (nums [x, y]), .sh), none, none, none, none, none, none]) rfl
  · walk_at "stgo"
  · rfl
  · first | (simp [badN, Bool.and_assoc]; done) | (simp only [badN]; cases R t x x <;> rfl) | (simp only [badN]; cases R t x y <;> cases R t y x <;> simp) | (simp only [badN]; cases R t x y <;> cases R t x z <;> cases R t y z <;> simp) | (simp only [badN]; cases R t x y <;> cases R t z w <;> cases R t x w <;> cases R t z y <;> simp)
theorem anti_8 : ∀ p q d : Bool, (!d && ((p == q) && (q == false))) = (!p && !q && !d) := by decide
theorem bad_8 (hC : LHasC C t) {x y : Nat} (hx : x < t.length) (hy : y < t.length) : runFn G C B_law_bad [tieT t, wd 8, .tup (nums [x, y])] = .ok (.bl (badN t 8 [x, y])) true [] := by
  apply run_b (F := B_law_bad) rfl (s0 := [some (tieT t, .sh), some (wd 8, .sh), some (.tup (nums [x, y]), .sh), none, none, none, none, none, none]) rfl
  · walk_at "stgo"
  · rfl
  · exact anti_8 _ _ _
theorem bad_9 (hC : LHasC C t) {x : Nat} (hx : x < t.length) : runFn G C B_law_bad [tieT t, wd 9, .tup (nums [x])] = .ok (.bl (badN t 9 [x])) true [] := by
  apply run_b (F := B_law_bad) rfl (s0 := [some (tieT t, .sh), some (wd 9, .sh), some (.tup (nums [x]), .sh), none, none, none, none, none, none]) rfl
  · walk_at "stgo"
  · rfl
  · first | (simp [badN, Bool.and_assoc]; done) | (simp only [badN]; cases R t x x <;> rfl) | (simp only [badN]; cases R t x y <;> cases R t y x <;> simp) | (simp only [badN]; cases R t x y <;> cases R t x z <;> cases R t y z <;> simp) | (simp only [badN]; cases R t x y <;> cases R t z w <;> cases R t x w <;> cases R t z y <;> simp)
theorem bad_10 (hC : LHasC C t) (hT : Tie t) {x : Nat} (hx : x < t.length) : runFn G C B_law_bad [tieT t, wd 10, .tup (nums [x])] = .ok (.bl (badN t 10 [x])) true [] := by
  have ea : ∀ a b c d : Option (T × Ow), Ev G C (.op1 .any (.lc (.nm 8) (.op1 .rng (.op1 .len (.var 0))) [] (.call f_law_has [(.var 0), (.var 8), (.var 4)]) [8])) [some (tieT t, .sh), a, b, c, some (.int x, .sh), some (.int x, .sh), d, some (.bl (R t x x), .sh), none] (.bl ((List.range t.length).any fun z => R t z x)) true [some (tieT t, .sh), a, b, c, some (.int x, .sh), some (.int x, .sh), d, some (.bl (R t x x), .sh), none] := by
    intro a b c d
    have q := ev_any (G := G) (C := C) (t := .nm 8) (elt := (.call f_law_has [(.var 0), (.var 8), (.var 4)])) (own := [8]) (s := [some (tieT t, .sh), a, b, c, some (.int x, .sh), some (.int x, .sh), d, some (.bl (R t x x), .sh), none]) (s1 := [some (tieT t, .sh), a, b, c, some (.int x, .sh), some (.int x, .sh), d, some (.bl (R t x x), .sh), none]) (it := .op1 .rng (.op1 .len (.var 0))) (o := true) (a := .lst (nums (List.range t.length))) (xs := nums (List.range t.length)) (p := fun z => match z with | .int k => R t k.toNat x | _ => false) (ag_of rfl (Ev.h (Ev.one rfl (Ev.one rfl (Ev.var rfl lfT) V1.lenN) (V1.rng (Nat.le_trans hT.six (by decide)))))) rfl rfl (fun z hz => by
      obtain ⟨k, hk, rfl⟩ := List.mem_map.mp hz
      have hk := List.mem_range.mp hk
      refine ⟨[some (tieT t, .sh), a, b, c, some (.int x, .sh), some (.int x, .sh), d, some (.bl (R t x x), .sh), some (.int k, .sh)], rfl, Ev.h ?_, rfl⟩
      have := hC k x hk
      walk_at "evgo") (by rw [nums_len, List.length_range]; exact Nat.le_trans hT.six (by simp [LIM]))
    have e : (nums (List.range t.length)).any (fun z => match z with | .int k => R t k.toNat x | _ => false) = (List.range t.length).any fun z => R t z x := by
      unfold nums; rw [List.any_map]; rfl
    rw [e] at q
    exact ⟨q⟩
  have eb := ea (some (wd 10, .sh)) (some (.tup (nums [x]), .sh)) none (some (.bl (R t x x), .sh))
  apply run_b (F := B_law_bad) rfl (s0 := [some (tieT t, .sh), some (wd 10, .sh), some (.tup (nums [x]), .sh), none, none, none, none, none, none]) rfl
  · walk_at "stgo"
  · rfl
  · first | (simp [badN, Bool.and_assoc]; done) | (simp only [badN]; cases R t x x <;> rfl) | (simp only [badN]; cases R t x y <;> cases R t y x <;> simp) | (simp only [badN]; cases R t x y <;> cases R t x z <;> cases R t y z <;> simp) | (simp only [badN]; cases R t x y <;> cases R t z w <;> cases R t x w <;> cases R t z y <;> simp)
theorem bad_11 (hC : LHasC C t) {x y z : Nat} (hx : x < t.length) (hy : y < t.length) (hz : z < t.length) : runFn G C B_law_bad [tieT t, wd 11, .tup (nums [x, y, z])] = .ok (.bl (badN t 11 [x, y, z])) true [] := by
  apply run_b (F := B_law_bad) rfl (s0 := [some (tieT t, .sh), some (wd 11, .sh), some (.tup (nums [x, y, z]), .sh), none, none, none, none, none, none]) rfl
  · walk_at "stgo"
  · rfl
  · first | (simp [badN, Bool.and_assoc]; done) | (simp only [badN]; cases R t x x <;> rfl) | (simp only [badN]; cases R t x y <;> cases R t y x <;> simp) | (simp only [badN]; cases R t x y <;> cases R t x z <;> cases R t y z <;> simp) | (simp only [badN]; cases R t x y <;> cases R t z w <;> cases R t x w <;> cases R t z y <;> simp)
theorem bad_12 (hC : LHasC C t) {x y z : Nat} (hx : x < t.length) (hy : y < t.length) (hz : z < t.length) : runFn G C B_law_bad [tieT t, wd 12, .tup (nums [x, y, z])] = .ok (.bl (badN t 12 [x, y, z])) true [] := by
  apply run_b (F := B_law_bad) rfl (s0 := [some (tieT t, .sh), some (wd 12, .sh), some (.tup (nums [x, y, z]), .sh), none, none, none, none, none, none]) rfl
  · walk_at "stgo"
  · rfl
  · simp only [badN]; cases R t x y <;> simp <;> (cases R t x z <;> simp <;> congr)
theorem bad_14 (hC : LHasC C t) {x y z w : Nat} (hx : x < t.length) (hy : y < t.length) (hz : z < t.length) (hw : w < t.length) : runFn G C B_law_bad [tieT t, wd 14, .tup (nums [x, y, z, w])] = .ok (.bl (badN t 14 [x, y, z, w])) true [] := by
  apply run_b (F := B_law_bad) rfl (s0 := [some (tieT t, .sh), some (wd 14, .sh), some (.tup (nums [x, y, z, w]), .sh), none, none, none, none, none, none]) rfl
  · walk_at "stgo"
  · rfl
  · first | (simp [badN, Bool.and_assoc]; done) | (simp only [badN]; cases R t x x <;> rfl) | (simp only [badN]; cases R t x y <;> cases R t y x <;> simp) | (simp only [badN]; cases R t x y <;> cases R t x z <;> cases R t y z <;> simp) | (simp only [badN]; cases R t x y <;> cases R t z w <;> cases R t x w <;> cases R t z y <;> simp)
theorem bad_15 (hC : LHasC C t) {x y : Nat} (hx : x < t.length) (hy : y < t.length) : runFn G C B_law_bad [tieT t, wd 15, .tup (nums [x, y])] = .ok (.bl (badN t 15 [x, y])) true [] := by
  apply run_b (F := B_law_bad) rfl (s0 := [some (tieT t, .sh), some (wd 15, .sh), some (.tup (nums [x, y]), .sh), none, none, none, none, none, none]) rfl
  · walk_at "stgo"
  · rfl
  · first | (simp [badN, Bool.and_assoc]; done) | (simp only [badN]; cases R t x x <;> rfl) | (simp only [badN]; cases R t x y <;> cases R t y x <;> simp) | (simp only [badN]; cases R t x y <;> cases R t x z <;> cases R t y z <;> simp) | (simp only [badN]; cases R t x y <;> cases R t z w <;> cases R t x w <;> cases R t z y <;> simp)
theorem bad_16 (hC : LHasC C t) {x y : Nat} (hx : x < t.length) (hy : y < t.length) : runFn G C B_law_bad [tieT t, wd 16, .tup (nums [x, y])] = .ok (.bl (badN t 16 [x, y])) true [] := by
  apply run_b (F := B_law_bad) rfl (s0 := [some (tieT t, .sh), some (wd 16, .sh), some (.tup (nums [x, y]), .sh), none, none, none, none, none, none]) rfl
  · walk_at "stgo"
  · rfl
  · first | (simp [badN, Bool.and_assoc]; done) | (simp only [badN]; cases R t x x <;> rfl) | (simp only [badN]; cases R t x y <;> cases R t y x <;> simp) | (simp only [badN]; cases R t x y <;> cases R t x z <;> cases R t y z <;> simp) | (simp only [badN]; cases R t x y <;> cases R t z w <;> cases R t x w <;> cases R t z y <;> simp)
theorem bad_17 (hC : LHasC C t) (hA : AheadC C t) {x y : Nat} (hx : x < t.length) (hy : y < t.length) : runFn G C B_law_bad [tieT t, wd 17, .tup (nums [x, y])] = .ok (.bl (badN t 17 [x, y])) true [] := by
  obtain ⟨l, l1, l2⟩ := hA x hx
  have l3 := mem_reach (y := y) l2
  apply run_b (F := B_law_bad) rfl (s0 := [some (tieT t, .sh), some (wd 17, .sh), some (.tup (nums [x, y]), .sh), none, none, none, none, none, none]) rfl
  · walk_at "stgo"
  · rfl
  · exact congrArg (fun b => !b) l3
end

local macro_rules | `(tactic| walk_at "lfgo") => `(tactic| first | exact Lf.int | exact Lf.bl | exact Lf.nums | exact lfT | exact Lf.non | exact Lf.str | exact Lf.wd (by first | decide | assumption) | assumption)
local macro_rules | `(tactic| walk_at "trT") => `(tactic| first | exact Tr.blT | (apply Tr.of; decide) | (apply Tr.of; rfl) | (apply Tr.of; simp only [*]; done) | (apply Tr.of; simp only [*]; rfl) | fail)
local macro_rules | `(tactic| walk_at "trF") => `(tactic| first | exact Tr.blF | (apply Tr.of; decide) | (apply Tr.of; rfl) | (apply Tr.of; simp only [*]; done) | (apply Tr.of; simp only [*]; rfl) | fail)
local macro_rules | `(tactic| walk_at "vgo") => `(tactic| first | exact V2.eqN | exact V2.eqI | exact V2.neN | exact V2.eqB | exact V2.neB | exact idT (by assumption) | exact ix0 | exact ix1 | exact ix2 | exact ixL rfl | exact V1.neg1 | exact V2.lt | exact V2.le | exact V2.gt | exact V2.ge | exact V1.lenN | exact V1.lenNl | exact V1.isTup | exact V1.isInt | exact V1.isBoolI | exact V1.isBoolB | exact V1.isNn | exact V1.isNt | exact V1.notNn | exact V1.notNt | exact V1.isStr (by first | decide | assumption) | exact Mm.nm | exact Mm.nmt | exact q0 (by decide) | exact q1 (by decide) | exact q2 (by decide) | exact q3 (by decide) | exact q4 (by decide) | exact q5 (by decide) | exact q6 (by decide) | exact q7 (by decide) | exact q8 (by decide) | exact q9 (by decide) | exact q10 (by decide) | exact q11 (by decide) | exact q12 (by decide) | exact q13 (by decide) | exact q14 (by decide) | exact q15 (by decide) | exact q16 (by decide) | exact q17 (by decide) | exact r_tup_asym_anti (by decide) | exact r_tup_total_conn (by decide) | exact r_tup_refl_irr_serial_inv (by decide) | exact r_lst_refl_irr_serial_inv (by decide) | exact r_lst_trans_neg_eucl_func (by decide) | exact r_lst_refl_irr (by decide) | exact r_lst_sym_asym (by decide) | exact r_lst_anti_conn (by decide) | exact r_lst_total_full (by decide) | exact r_lst_ident_one (by decide) | apply V2.mem | apply V2.nmem | fail)
local macro_rules | `(tactic| walk_at "ev1") => `(tactic| first | exact Ev.con | assumption | exact Ev.var rfl (by walk_at "lfgo") | exact Ev.varL rfl | apply Ev.and | apply Ev.or | apply Ev.chain | apply Ev.not rfl | apply Ev.call1 rfl rfl rfl | apply Ev.call2 rfl rfl rfl rfl | apply Ev.call3 rfl rfl rfl rfl rfl | apply Ev.call4 rfl rfl rfl rfl rfl rfl | apply Ev.call5 rfl rfl rfl rfl rfl rfl rfl | apply Ev.call0 rfl rfl | walk_at "ite" | apply Ev.one rfl | apply Ev.two rfl rfl | exact Ev.tup0 | exact Ev.lst0 | apply Ev.tup1 | apply Ev.tup2 | apply Ev.tup4 | apply Ev.lst2 | apply Ev.lst3 | apply Ev.lst4 | walk_at "vgo" | apply_assumption | fail)
local macro_rules | `(tactic| walk_at "evgo") => `(tactic| repeat' (walk_at "ev1"))
local macro_rules | `(tactic| walk_at "ite") => `(tactic| first | (apply Ev.iteT; (· walk_at "evgo"); (· walk_at "trT")) | (apply Ev.iteF; (· walk_at "evgo"); (· walk_at "trF")) | fail)
local macro_rules | `(tactic| walk_at "st1") => `(tactic| first | exact Sts.nil | (apply Sts.rt; apply St.ret; walk_at "evgo") | (apply Sts.cons; (· (apply St.skip; (· walk_at "evgo"); (· walk_at "trF")))) | (apply Sts.rt; apply St.iffT; (· walk_at "evgo"); (· walk_at "trT")) | (apply Sts.cons; (· (apply St.set; (· walk_at "evgo")))) | (apply Sts.cons; (· (apply St.par2; (· walk_at "evgo"); (· walk_at "evgo"); (· rfl)))) | (apply Sts.cons; (· (apply St.unp; (· walk_at "evgo"); (· rfl)))) | fail)
local macro_rules | `(tactic| walk_at "stgo") => `(tactic| repeat' (walk_at "st1"))
/-! ### small tests; rows -/
section
variable {C : Nat → List T → CR} {t : List Nat}
def WholeC (C : Nat → List T → CR) : Prop := ∀ a : Nat, Cv C f_is_whole [.int a] (.bl true) true
theorem is_whole_run (a : Nat) : runFn G C B_is_whole [.int a] = .ok (.bl true) true [] := by
  apply run_b (F := B_is_whole) rfl (s0 := [some (.int a, .sh)]) rfl
  · walk_at "stgo"
  · rfl
  · rfl
theorem glM {s : Sl} : Ev G C (.gl g_MOST_THINGS) s (.int 6) true s := ⟨glE rfl (by simp [T.lf])⟩
theorem is_thing_run (hW : WholeC C) (x : Nat) : runFn G C B_is_thing [tieT t, .int x] = .ok (.bl (decide (x < t.length))) true [] := by
  apply run_b (F := B_is_thing) rfl (s0 := [some (tieT t, .sh), some (.int x, .sh)]) rfl
  · have h := hW x
    have l : V1 .len (tieT t) (.int t.length) := V1.lenN
    walk_at "stgo"
  · rfl
  · have : (0 : Int) ≤ (x : Int) := by omega
    simp [this]
theorem law_thing_run (x : Nat) : runFn G C B_law_thing [tieT t, .int x] = .ok (.bl (decide (x < t.length))) true [] := by
  apply run_b (F := B_law_thing) rfl (s0 := [some (tieT t, .sh), some (.int x, .sh)]) rfl
  · have l : V1 .len (tieT t) (.int t.length) := V1.lenN
    walk_at "stgo"
  · rfl
  · have : (0 : Int) ≤ (x : Int) := by omega
    simp [this]
/-- what is in a set -/
def thingsN (a : Nat) : List Nat := (List.range 6).filter fun y => a.testBit y
def pN (p : Nat → Bool) (z : T) : Bool := match z with | .int k => p k.toNat | _ => false
theorem nums_filter {p : Nat → Bool} (l : List Nat) : (nums l).filter (pN p) = nums (l.filter p) := by
  unfold nums
  rw [List.filter_map]
  rfl
theorem nums_all {p : Nat → Bool} (l : List Nat) : (nums l).all (pN p) = l.all p := by
  unfold nums
  rw [List.all_map]; rfl
theorem nums_anyP {p : Nat → Bool} (l : List Nat) : (nums l).any (pN p) = l.any p := by
  unfold nums
  rw [List.any_map]; rfl
theorem things_in_run (hC : HasC C) (a : Nat) : runFn G C B_things_in [.int a] = .ok (.lst (nums (thingsN a))) true [] := by
  have q := ev_filt (G := G) (C := C) (t := .nm 1) (it := .op1 .rng (.gl g_MOST_THINGS)) (c := .call f_has [(.var 0), (.var 1)]) (elt := .var 1) (own := [1]) (s := [some (.int a, .sh), none]) (s1 := [some (.int a, .sh), none]) (o := true) (a := .lst (nums (List.range 6))) (xs := nums (List.range 6)) (p := pN fun y => a.testBit y)
    (ag_of rfl (Ev.h (Ev.one rfl glM (V1.rng (n := 6) (by decide))))) rfl rfl (fun z hz => by
      obtain ⟨k, hk, rfl⟩ := List.mem_map.mp hz
      refine ⟨[some (.int a, .sh), some (.int k, .sh)], rfl, Ev.h ?_, Ev.h ?_, rfl⟩
      · have := hC a k
        walk_at "evgo"
      · exact Ev.var rfl Lf.int) (by simp [nums, LIM])
  rw [nums_filter] at q
  have q : Ev G C (.lc (.nm 1) (.op1 .rng (.gl g_MOST_THINGS)) [(.call f_has [(.var 0), (.var 1)])] (.var 1) [1]) [some (.int a, .sh), none] (.lst (nums (thingsN a))) true [some (.int a, .sh), none] := ⟨q⟩
  apply run_s (F := B_things_in) rfl (s0 := [some (.int a, .sh), none]) rfl
  · walk_at "stgo"
  · rfl
theorem tie_six (hT : Tie t) : t.length ≤ 1000 := Nat.le_trans hT.six (by decide)
theorem is_tie_run (hT : Tie t) (hW : WholeC C) : runFn G C B_is_tie [tieT t] = .ok (.bl true) true [] := by
  have ea := ev_all (G := G) (C := C) (t := .nm 1) (it := .var 0) (elt := (.and (.call f_is_whole [(.var 1)]) (.chain .le .lt (.con (.int 0)) (.var 1) (.op2 .shl (.con (.int 1)) (.op1 .len (.var 0)))))) (own := [1]) (s := [some (tieT t, .sh), none]) (s1 := [some (tieT t, .sh), none]) (o := true) (a := tieT t) (xs := nums t) (p := pN fun k => decide (k < 2 ^ t.length))
    (ag_of rfl (Ev.h (Ev.var rfl lfT))) rfl rfl (fun z hz => by
      obtain ⟨k, hk, rfl⟩ := List.mem_map.mp hz
      refine ⟨[some (tieT t, .sh), some (.int k, .sh)], rfl, Ev.h ?_, rfl⟩
      have h := hW k
      have l : V1 .len (tieT t) (.int t.length) := V1.lenN
      have sh : V2 .shl (.int 1) (.int t.length) (.int (2 ^ t.length : Nat)) := ⟨by
        have e : shlOk 1 (t.length : Int) = true := by
          unfold shlOk
          rw [decide_eq_true_eq]
          have := hT.six
          refine ⟨by omega, by omega, by decide⟩
        simp [o2, e], rfl⟩
      have e : decide ((k : Int).toNat < 2 ^ t.length) = (true && (decide ((0 : Int) ≤ k) && decide ((k : Int) < (2 ^ t.length : Nat)))) := by
        have h0 : (0 : Int) ≤ (k : Int) := by omega
        have h1 : ((k : Int) < ((2 ^ t.length : Nat) : Int)) = (k < 2 ^ t.length) := by rw [Int.ofNat_lt]
        simp only [h0, decide_true, Bool.true_and, h1]
        rfl
      show Ev G C _ _ (.bl (decide ((k : Int).toNat < 2 ^ t.length))) true _
      rw [e]
      apply Ev.and
      · walk_at "evgo"
      · apply Ev.chain
        · exact Ev.con
        · exact Ev.var rfl Lf.int
        · exact Ev.two rfl rfl Ev.con (Ev.one rfl (Ev.var rfl lfT) l) sh
        · exact V2.le
        · exact V2.lt) (by rw [nums_len]; exact Nat.le_trans hT.six (by simp [LIM]))
  rw [nums_all] at ea
  have eb : t.all (fun k => decide (k < 2 ^ t.length)) = true := List.all_eq_true.mpr fun a ha => decide_eq_true (hT.lt a ha)
  rw [eb] at ea
  have ea : Ev G C (.op1 .all (.lc (.nm 1) (.var 0) [] (.and (.call f_is_whole [(.var 1)]) (.chain .le .lt (.con (.int 0)) (.var 1) (.op2 .shl (.con (.int 1)) (.op1 .len (.var 0))))) [1])) [some (tieT t, .sh), none] (.bl true) true [some (tieT t, .sh), none] := ⟨ea⟩
  have l : V1 .len (tieT t) (.int t.length) := V1.lenN
  have ch : Ev G C (.or (.op1 .notO (.op1 (.isK .tuple) (.var 0))) (.op1 .notO (.chain .le .le (.con (.int 1)) (.op1 .len (.var 0)) (.gl g_MOST_THINGS)))) [some (tieT t, .sh), none] (.bl false) true [some (tieT t, .sh), none] := by
    have e : false = (!true || !(decide ((1 : Int) ≤ t.length) && decide ((t.length : Int) ≤ 6))) := by
      have := hT.pos
      have := hT.six
      have h1 : (1 : Int) ≤ t.length := by omega
      have h2 : (t.length : Int) ≤ 6 := by omega
      simp [h1, h2]
    rw [e]
    apply Ev.or
    · exact Ev.not rfl (Ev.one rfl (Ev.var rfl lfT) V1.isTup)
    · exact Ev.not rfl (Ev.chain Ev.con (Ev.one rfl (Ev.var rfl lfT) l) glM V2.le V2.le)
  apply run_s (F := B_is_tie) rfl (s0 := [some (tieT t, .sh), none]) rfl
  · exact Sts.cons (St.skip ch Tr.blF) (Sts.rt (St.ret ea))
  · rfl
def IsTieC (C : Nat → List T → CR) (t : List Nat) : Prop := Cv C f_is_tie [tieT t] (.bl true) true
theorem check_tie_run (h : IsTieC C t) : runFn G C B_check_tie [tieT t] = .ok .non true [] := by
  unfold IsTieC at h
  apply run_n (F := B_check_tie) rfl (s0 := [some (tieT t, .sh)]) rfl
  · walk_at "stgo"
  · rfl
theorem words_tup : k_WORDS = .tup (enc (List.range 18)) := by kernel_rfl
theorem glW {s : Sl} : Ev G C (.gl g_WORDS) s (.tup (enc (List.range 18))) true s := ⟨by
  have e : G.consts[g_WORDS]? = some k_WORDS := rfl
  rw [words_tup] at e
  exact glE e (by rw [T.lf]; exact enc_lf range18_lt)⟩
theorem check_word_run {i : Nat} (h : i < 18) : runFn G C B_check_word [wd i] = .ok .non true [] := by
  have m : Mm (wd i) (.tup (enc (List.range 18))) true := ⟨by rw [mem_tup h range18_lt]; simp [h]⟩
  have e : Ev G C (.or (.op1 .notO (.op1 (.isK .str) (.var 0))) (.op2 .nmem (.var 0) (.gl g_WORDS))) [some (wd i, .sh)] (.bl (!true || !true)) true [some (wd i, .sh)] :=
    Ev.or (Ev.not rfl (Ev.one rfl (Ev.var rfl (Lf.wd h)) (V1.isStr h))) (Ev.two rfl rfl (Ev.var rfl (Lf.wd h)) glW (V2.nmem m))
  apply run_n (F := B_check_word) rfl (s0 := [some (wd i, .sh)]) rfl
  · exact Sts.cons (St.skip e Tr.blF) Sts.nil
  · rfl
/-! rows of so many things -/
def rowsN (n : Nat) : Nat → List (List Nat)
  | 0 => [[]]
  | k + 1 => (rowsN n k).flatMap fun r => (List.range n).map fun x => r ++ [x]
def rowsT (l : List (List Nat)) : List T := l.map fun r => .tup (nums r)
theorem rowsN_mem {n : Nat} : ∀ {k : Nat} {r : List Nat}, r ∈ rowsN n k → r.length = k ∧ ∀ x ∈ r, x < n
  | 0, r, h => by
    simp only [rowsN, List.mem_singleton] at h
    subst h
    simp
  | k + 1, r, h => by
    simp only [rowsN, List.mem_flatMap, List.mem_map, List.mem_range] at h
    obtain ⟨q, hq, x, hx, rfl⟩ := h
    obtain ⟨h1, h2⟩ := rowsN_mem hq
    refine ⟨by simp [h1], fun y hy => ?_⟩
    rcases List.mem_append.mp hy with z | z
    · exact h2 y z
    · rw [List.mem_singleton.mp z]; exact hx
theorem rowsN_len {n : Nat} : ∀ k : Nat, (rowsN n k).length = n ^ k
  | 0 => by simp [rowsN]
  | k + 1 => by
    have e : ∀ l : List (List Nat), (l.flatMap fun r => (List.range n).map fun x => r ++ [x]).length = l.length * n := fun l => by
      induction l with
      | nil => simp
      | cons a l ih => rw [List.flatMap_cons, List.length_append, ih]; simp [Nat.succ_mul, Nat.add_comm]
    rw [rowsN, e, rowsN_len k, Nat.pow_succ]
end

local macro_rules | `(tactic| walk_at "lfgo") => `(tactic| first | exact Lf.int | exact Lf.bl | exact Lf.nums | exact lfT | exact Lf.non | exact Lf.str | exact Lf.wd (by first | decide | assumption) | assumption)
local macro_rules | `(tactic| walk_at "trT") => `(tactic| first | exact Tr.blT | (apply Tr.of; decide) | (apply Tr.of; rfl) | (apply Tr.of; simp only [*]; done) | (apply Tr.of; simp only [*]; rfl) | fail)
local macro_rules | `(tactic| walk_at "trF") => `(tactic| first | exact Tr.blF | (apply Tr.of; decide) | (apply Tr.of; rfl) | (apply Tr.of; simp only [*]; done) | (apply Tr.of; simp only [*]; rfl) | fail)
local macro_rules | `(tactic| walk_at "vgo") => `(tactic| first | exact V2.eqN | exact V2.eqI | exact V2.neN | exact V2.eqB | exact V2.neB | exact idT (by assumption) | exact ix0 | exact ix1 | exact ix2 | exact ixL rfl | exact V1.neg1 | exact V2.lt | exact V2.le | exact V2.gt | exact V2.ge | exact V1.lenN | exact V1.lenNl | exact V1.isTup | exact V1.isInt | exact V1.isBoolI | exact V1.isBoolB | exact V1.isNn | exact V1.isNt | exact V1.notNn | exact V1.notNt | exact V1.isStr (by first | decide | assumption) | exact Mm.nm | exact Mm.nmt | exact q0 (by decide) | exact q1 (by decide) | exact q2 (by decide) | exact q3 (by decide) | exact q4 (by decide) | exact q5 (by decide) | exact q6 (by decide) | exact q7 (by decide) | exact q8 (by decide) | exact q9 (by decide) | exact q10 (by decide) | exact q11 (by decide) | exact q12 (by decide) | exact q13 (by decide) | exact q14 (by decide) | exact q15 (by decide) | exact q16 (by decide) | exact q17 (by decide) | exact r_tup_asym_anti (by decide) | exact r_tup_total_conn (by decide) | exact r_tup_refl_irr_serial_inv (by decide) | exact r_lst_refl_irr_serial_inv (by decide) | exact r_lst_trans_neg_eucl_func (by decide) | exact r_lst_refl_irr (by decide) | exact r_lst_sym_asym (by decide) | exact r_lst_anti_conn (by decide) | exact r_lst_total_full (by decide) | exact r_lst_ident_one (by decide) | apply V2.mem | apply V2.nmem | fail)
local macro_rules | `(tactic| walk_at "ev1") => `(tactic| first | exact Ev.con | assumption | exact Ev.var rfl (by walk_at "lfgo") | exact Ev.varL rfl | apply Ev.and | apply Ev.or | apply Ev.chain | apply Ev.not rfl | apply Ev.call1 rfl rfl rfl | apply Ev.call2 rfl rfl rfl rfl | apply Ev.call3 rfl rfl rfl rfl rfl | apply Ev.call4 rfl rfl rfl rfl rfl rfl | apply Ev.call5 rfl rfl rfl rfl rfl rfl rfl | apply Ev.call0 rfl rfl | walk_at "ite" | apply Ev.one rfl | apply Ev.two rfl rfl | exact Ev.tup0 | exact Ev.lst0 | apply Ev.tup1 | apply Ev.tup2 | apply Ev.tup4 | apply Ev.lst2 | apply Ev.lst3 | apply Ev.lst4 | walk_at "vgo" | apply_assumption | fail)
local macro_rules | `(tactic| walk_at "evgo") => `(tactic| repeat' (walk_at "ev1"))
local macro_rules | `(tactic| walk_at "ite") => `(tactic| first | (apply Ev.iteT; (· walk_at "evgo"); (· walk_at "trT")) | (apply Ev.iteF; (· walk_at "evgo"); (· walk_at "trF")) | fail)
local macro_rules | `(tactic| walk_at "st1") => `(tactic| first | exact Sts.nil | (apply Sts.rt; apply St.ret; walk_at "evgo") | (apply Sts.cons; (· (apply St.skip; (· walk_at "evgo"); (· walk_at "trF")))) | (apply Sts.rt; apply St.iffT; (· walk_at "evgo"); (· walk_at "trT")) | (apply Sts.cons; (· (apply St.set; (· walk_at "evgo")))) | (apply Sts.cons; (· (apply St.par2; (· walk_at "evgo"); (· walk_at "evgo"); (· rfl)))) | (apply Sts.cons; (· (apply St.unp; (· walk_at "evgo"); (· rfl)))) | fail)
local macro_rules | `(tactic| walk_at "stgo") => `(tactic| repeat' (walk_at "st1"))
section
variable {C : Nat → List T → CR} {t : List Nat}
theorem rowsT_lf : ∀ l : List (List Nat), T.lfL (rowsT l) = true
  | [] => rfl
  | a :: l => by
    show T.lfL (.tup (nums a) :: rowsT l) = true
    rw [T.lfL, T.lf, nums_lf, rowsT_lf l]; rfl
theorem rowsT_len (l : List (List Nat)) : (rowsT l).length = l.length := by simp [rowsT]
theorem add_one {r : List Nat} {x : Nat} (h : r.length ≤ 1000) : V2 .add (.tup (nums r)) (.tup [.int x]) (.tup (nums (r ++ [x]))) := ⟨by
  have e : (nums r).length + 1 ≤ LIM := by rw [nums_len]; unfold LIM; omega
  simp [o2, addT, LIM] at e ⊢
  refine ⟨by omega, ?_⟩
  simp [nums], by
  show (T.tup (nums (r ++ [x]))).inner = true
  rw [T.inner]; exact nums_lf _⟩
/-- the next longer rows -/
def longer (n : Nat) (l : List (List Nat)) : List (List Nat) := l.flatMap fun r => (List.range n).map fun x => r ++ [x]
theorem longer_len {n : Nat} (l : List (List Nat)) : (longer n l).length = l.length * n := by
  unfold longer
  induction l with
  | nil => simp
  | cons a l ih => rw [List.flatMap_cons, List.length_append, ih]; simp [Nat.succ_mul, Nat.add_comm]
theorem rngE {s : Sl} {i n : Nat} (h : rd s i = some (.int n, .sh)) (hn : n ≤ 1000) : Ev G C (.op1 .rng (.var i)) s (.lst (nums (List.range n))) true s := Ev.one rfl (Ev.var h Lf.int) (V1.rng hn)
def inner (n : Nat) (r : T) : List (T × Bool) := match r with
  | .tup xs => (List.range n).map fun (x : Nat) => (.tup (xs ++ [.int x]), true)
  | _ => []
theorem inner_map {n : Nat} (l : List (List Nat)) : ((rowsT l).flatMap (inner n)).map (·.1) = rowsT (longer n l) ∧ ((rowsT l).flatMap (inner n)).all (·.2) = true ∧ ((rowsT l).flatMap (inner n)).length = (longer n l).length := by
  induction l with
  | nil => simp [rowsT, longer]
  | cons a l ih =>
    obtain ⟨i1, i2, i3⟩ := ih
    have e : rowsT (a :: l) = .tup (nums a) :: rowsT l := rfl
    have e2 : longer n (a :: l) = ((List.range n).map fun x => a ++ [x]) ++ longer n l := rfl
    rw [e, e2, List.flatMap_cons]
    refine ⟨?_, ?_, ?_⟩
    · rw [List.map_append, i1]
      unfold rowsT
      rw [List.map_append]
      congr 1
      simp [inner, nums]
    · rw [List.all_append, i2]; simp [inner]
    · rw [List.length_append, List.length_append, i3]; simp [inner]
theorem rows_pass {n : Nat} {l : List (List Nat)} {k : T} {z : Option (T × Ow)} (hn : n ≤ 6) (hl : l.length ≤ 1300) (hr : ∀ r ∈ l, r.length ≤ 1000) :
    Ev G C (.lc2 (.nm 4) (.var 2) (.nm 5) (.op1 .rng (.var 0)) [] (.op2 .add (.var 4) (.tup [(.var 5)])) [4, 5] [5]) [some (.int n, .sh), some (k, .sh), some (.lst (rowsT l), .sh), z, none, none] (.lst (rowsT (longer n l))) true [some (.int n, .sh), some (k, .sh), some (.lst (rowsT l), .sh), z, none, none] := ⟨by
  obtain ⟨m1, m2, m3⟩ := inner_map (n := n) l
  have q := ev_lc2 (G := G) (C := C) (t := .nm 4) (t1 := .nm 5) (it := .var 2) (it1 := .op1 .rng (.var 0)) (cs1 := []) (elt := .op2 .add (.var 4) (.tup [(.var 5)])) (own := [4, 5]) (own1 := [5]) (g := inner n) (xs := rowsT l)
    (ag_of (c := .var 2) rfl (Ev.varL (C := C) (G := G) (s := [some (.int n, .sh), some (k, .sh), some (.lst (rowsT l), .sh), z, none, none]) (i := 2) (l := rowsT l) rfl).h) rfl rfl (fun x hx => by
    obtain ⟨r, hr', rfl⟩ := List.mem_map.mp hx
    have hrl := hr r hr'
    obtain ⟨sI, p1, p2⟩ := lcGo_map (own := [5]) (tg := .nm 5) (body := fun s6 => evc G C [] s6 (fun s7 => (ev G C (.op2 .add (.var 4) (.tup [(.var 5)])) s7).bind fun y s8 => .ok [y] s8)) (s0 := [some (.int n, .sh), some (k, .sh), some (.lst (rowsT l), .sh), z, some (.tup (nums r), .sh), none]) (g := fun x => [(.tup (nums r ++ [x]), true)]) (nums (List.range n)) [some (.int n, .sh), some (k, .sh), some (.lst (rowsT l), .sh), z, some (.tup (nums r), .sh), none] rfl (fun y hy => by
      obtain ⟨j, hj, rfl⟩ := List.mem_map.mp hy
      refine ⟨[some (.int n, .sh), some (k, .sh), some (.lst (rowsT l), .sh), z, some (.tup (nums r), .sh), some (.int j, .sh)], [some (.int n, .sh), some (k, .sh), some (.lst (rowsT l), .sh), z, some (.tup (nums r), .sh), some (.int j, .sh)], rfl, ?_, rfl⟩
      have e : Ev G C (.op2 .add (.var 4) (.tup [(.var 5)])) [some (.int n, .sh), some (k, .sh), some (.lst (rowsT l), .sh), z, some (.tup (nums r), .sh), some (.int j, .sh)] (.tup (nums (r ++ [j]))) true [some (.int n, .sh), some (k, .sh), some (.lst (rowsT l), .sh), z, some (.tup (nums r), .sh), some (.int j, .sh)] :=
        Ev.two rfl rfl (Ev.var rfl Lf.nums) (Ev.tup1 (Ev.var rfl Lf.int)) (add_one hrl)
      rw [evc, e.h]
      simp [Rv.bind, nums])
    refine ⟨[some (.int n, .sh), some (k, .sh), some (.lst (rowsT l), .sh), z, some (.tup (nums r), .sh), none], .lst (nums (List.range n)), true, nums (List.range n), [some (.int n, .sh), some (k, .sh), some (.lst (rowsT l), .sh), z, some (.tup (nums r), .sh), none], sI, rfl,
      ag_of (c := .op1 .rng (.var 0)) rfl (rngE (C := C) (i := 0) (n := n) rfl (by omega)).h, rfl, ?_, ?_⟩
    · rw [p1]
      congr 1
      rw [flat_one (h := fun x => (.tup (nums r ++ [x]), true))]
      simp [inner, nums]
    · rw [p2]; rfl) (by
    rw [m3, longer_len]
    have : l.length * n ≤ 1300 * 6 := Nat.mul_le_mul hl hn
    unfold LIM; omega)
  rw [q, m1, m2, rowsT_lf]; rfl⟩
/-- rows_of: the turns -/
theorem rows_go {n : Nat} {k : T} (hn : n ≤ 6) : ∀ (ts : List T) (j : Nat) (z : Option (T × Ow)), j + ts.length ≤ 4 → ∃ z', forGo (.nm 3) none (fun s3 => exs G C [.set 2 (.lc2 (.nm 4) (.var 2) (.nm 5) (.op1 .rng (.var 0)) [] (.op2 .add (.var 4) (.tup [(.var 5)])) [4, 5] [5])] s3) ts [some (.int n, .sh), some (k, .sh), some (.lst (rowsT (rowsN n j)), .sh), z, none, none] = .nx [some (.int n, .sh), some (k, .sh), some (.lst (rowsT (rowsN n (j + ts.length))), .sh), z', none, none]
  | [], j, z, _ => ⟨z, rfl⟩
  | x :: ts, j, z, h => by
    rw [List.length_cons] at h
    obtain ⟨z', q⟩ := rows_go (n := n) (k := k) hn ts (j + 1) (some (x, .sh)) (by omega)
    refine ⟨z', ?_⟩
    have hl : (rowsN n j).length ≤ 1300 := by
      rw [rowsN_len]
      have h1 : n ^ j ≤ 6 ^ j := Nat.pow_le_pow_left hn j
      have h2 : 6 ^ j ≤ 6 ^ 3 := Nat.pow_le_pow_right (by omega) (by omega)
      omega
    have hb : Sts G C [.set 2 (.lc2 (.nm 4) (.var 2) (.nm 5) (.op1 .rng (.var 0)) [] (.op2 .add (.var 4) (.tup [(.var 5)])) [4, 5] [5])] [some (.int n, .sh), some (k, .sh), some (.lst (rowsT (rowsN n j)), .sh), some (x, .sh), none, none] (.nx [some (.int n, .sh), some (k, .sh), some (.lst (rowsT (rowsN n (j + 1))), .sh), some (x, .sh), none, none]) :=
      Sts.cons (St.set (rows_pass hn hl fun r hr => by rw [(rowsN_mem hr).1]; omega)) Sts.nil
    rw [forGo]
    show (match exs G C _ [some (.int n, .sh), some (k, .sh), some (.lst (rowsT (rowsN n j)), .sh), some (x, .sh), none, none] with | .nx s2 => _ | r => r) = _
    rw [hb.h]
    show forGo _ _ _ ts _ = _
    rw [q]
    have e : j + 1 + ts.length = j + (x :: ts).length := by rw [List.length_cons]; omega
    rw [e]
theorem rows_of_run {n k : Nat} (hn : n ≤ 6) (hk : k ≤ 4) : runFn G C B_rows_of [.int n, .int k] = .ok (.lst (rowsT (rowsN n k))) false [] := by
  obtain ⟨z', q⟩ := rows_go (C := C) (n := n) (k := .int k) hn (nums (List.range k)) 0 none (by rw [nums_len, List.length_range]; omega)
  rw [nums_len, List.length_range, Nat.zero_add] at q
  have fr : St G C (.fr (.nm 3) (.op1 .rng (.var 1)) [.set 2 (.lc2 (.nm 4) (.var 2) (.nm 5) (.op1 .rng (.var 0)) [] (.op2 .add (.var 4) (.tup [(.var 5)])) [4, 5] [5])]) [some (.int n, .sh), some (.int k, .sh), some (.lst (rowsT (rowsN n 0)), .sh), none, none, none] (.nx [some (.int n, .sh), some (.int k, .sh), some (.lst (rowsT (rowsN n k)), .sh), z', none, none]) :=
    ⟨x_fr1 rfl (rngE (i := 1) rfl (by omega)).h rfl q⟩
  have l0 : Ev G C (.lst [(.tup [])]) [some (.int n, .sh), some (.int k, .sh), none, none, none, none] (.lst [.tup []]) true [some (.int n, .sh), some (.int k, .sh), none, none, none, none] := ⟨by simp [ev, evs, Rv.bind, LIM]⟩
  apply run_s (F := B_rows_of) rfl (s0 := [some (.int n, .sh), some (.int k, .sh), none, none, none, none]) rfl
  · exact Sts.cons (St.set l0) (Sts.cons fr (Sts.rt (St.ret (Ev.varL rfl))))
  · rfl
end

local macro_rules | `(tactic| walk_at "lfgo") => `(tactic| first | exact Lf.int | exact Lf.bl | exact Lf.nums | exact lfT | exact Lf.non | exact Lf.str | exact Lf.wd (by first | decide | assumption) | assumption)
local macro_rules | `(tactic| walk_at "trT") => `(tactic| first | exact Tr.blT | (apply Tr.of; decide) | (apply Tr.of; rfl) | (apply Tr.of; simp only [*]; done) | (apply Tr.of; simp only [*]; rfl) | fail)
local macro_rules | `(tactic| walk_at "trF") => `(tactic| first | exact Tr.blF | (apply Tr.of; decide) | (apply Tr.of; rfl) | (apply Tr.of; simp only [*]; done) | (apply Tr.of; simp only [*]; rfl) | fail)
local macro_rules | `(tactic| walk_at "vgo") => `(tactic| first | exact V2.eqN | exact V2.eqI | exact V2.neN | exact V2.eqB | exact V2.neB | exact idT (by assumption) | exact ix0 | exact ix1 | exact ix2 | exact ixL rfl | exact V1.neg1 | exact V2.lt | exact V2.le | exact V2.gt | exact V2.ge | exact V1.lenN | exact V1.lenNl | exact V1.isTup | exact V1.isInt | exact V1.isBoolI | exact V1.isBoolB | exact V1.isNn | exact V1.isNt | exact V1.notNn | exact V1.notNt | exact V1.isStr (by first | decide | assumption) | exact Mm.nm | exact Mm.nmt | exact q0 (by decide) | exact q1 (by decide) | exact q2 (by decide) | exact q3 (by decide) | exact q4 (by decide) | exact q5 (by decide) | exact q6 (by decide) | exact q7 (by decide) | exact q8 (by decide) | exact q9 (by decide) | exact q10 (by decide) | exact q11 (by decide) | exact q12 (by decide) | exact q13 (by decide) | exact q14 (by decide) | exact q15 (by decide) | exact q16 (by decide) | exact q17 (by decide) | exact r_tup_asym_anti (by decide) | exact r_tup_total_conn (by decide) | exact r_tup_refl_irr_serial_inv (by decide) | exact r_lst_refl_irr_serial_inv (by decide) | exact r_lst_trans_neg_eucl_func (by decide) | exact r_lst_refl_irr (by decide) | exact r_lst_sym_asym (by decide) | exact r_lst_anti_conn (by decide) | exact r_lst_total_full (by decide) | exact r_lst_ident_one (by decide) | apply V2.mem | apply V2.nmem | fail)
local macro_rules | `(tactic| walk_at "ev1") => `(tactic| first | exact Ev.con | assumption | exact Ev.var rfl (by walk_at "lfgo") | exact Ev.varL rfl | apply Ev.and | apply Ev.or | apply Ev.chain | apply Ev.not rfl | apply Ev.call1 rfl rfl rfl | apply Ev.call2 rfl rfl rfl rfl | apply Ev.call3 rfl rfl rfl rfl rfl | apply Ev.call4 rfl rfl rfl rfl rfl rfl | apply Ev.call5 rfl rfl rfl rfl rfl rfl rfl | apply Ev.call0 rfl rfl | walk_at "ite" | apply Ev.one rfl | apply Ev.two rfl rfl | exact Ev.tup0 | exact Ev.lst0 | apply Ev.tup1 | apply Ev.tup2 | apply Ev.tup4 | apply Ev.lst2 | apply Ev.lst3 | apply Ev.lst4 | walk_at "vgo" | apply_assumption | fail)
local macro_rules | `(tactic| walk_at "evgo") => `(tactic| repeat' (walk_at "ev1"))
local macro_rules | `(tactic| walk_at "ite") => `(tactic| first | (apply Ev.iteT; (· walk_at "evgo"); (· walk_at "trT")) | (apply Ev.iteF; (· walk_at "evgo"); (· walk_at "trF")) | fail)
local macro_rules | `(tactic| walk_at "st1") => `(tactic| first | exact Sts.nil | (apply Sts.rt; apply St.ret; walk_at "evgo") | (apply Sts.cons; (· (apply St.skip; (· walk_at "evgo"); (· walk_at "trF")))) | (apply Sts.rt; apply St.iffT; (· walk_at "evgo"); (· walk_at "trT")) | (apply Sts.cons; (· (apply St.set; (· walk_at "evgo")))) | (apply Sts.cons; (· (apply St.par2; (· walk_at "evgo"); (· walk_at "evgo"); (· rfl)))) | (apply Sts.cons; (· (apply St.unp; (· walk_at "evgo"); (· rfl)))) | fail)
local macro_rules | `(tactic| walk_at "stgo") => `(tactic| repeat' (walk_at "st1"))
section
variable {C : Nat → List T → CR} {t : List Nat}
/-! _law_rows -/
theorem lrow_turn {n : Nat} {k rows turn : T} {acc : List (List Nat)} {r : List Nat} (hn : n ≤ 6) (hr : r.length ≤ 1000) (ha : acc.length ≤ 8000) :
    Sts G C [.set 4 (.op2 .add (.var 4) (.lc (.nm 6) (.op1 .rng (.var 0)) [] (.op2 .add (.var 5) (.tup [(.var 6)])) [6]))] [some (.int n, .sh), some (k, .sh), some (rows, .sh), some (turn, .sh), some (.lst (rowsT acc), .sh), some (.tup (nums r), .sh), none]
      (.nx [some (.int n, .sh), some (k, .sh), some (rows, .sh), some (turn, .sh), some (.lst (rowsT (acc ++ (List.range n).map fun x => r ++ [x])), .sh), some (.tup (nums r), .sh), none]) := by
  have q := ev_map (G := G) (C := C) (t := .nm 6) (it := .op1 .rng (.var 0)) (elt := .op2 .add (.var 5) (.tup [(.var 6)])) (own := [6]) (h := fun x => (.tup (nums r ++ [x]), true)) (xs := nums (List.range n))
    (ag_of (c := .op1 .rng (.var 0)) rfl (rngE (C := C) (s := [some (.int n, .sh), some (k, .sh), some (rows, .sh), some (turn, .sh), some (.lst (rowsT acc), .sh), some (.tup (nums r), .sh), none]) (i := 0) (n := n) rfl (by omega)).h) rfl rfl (fun y hy => by
      obtain ⟨j, hj, rfl⟩ := List.mem_map.mp hy
      refine ⟨[some (.int n, .sh), some (k, .sh), some (rows, .sh), some (turn, .sh), some (.lst (rowsT acc), .sh), some (.tup (nums r), .sh), some (.int j, .sh)], [some (.int n, .sh), some (k, .sh), some (rows, .sh), some (turn, .sh), some (.lst (rowsT acc), .sh), some (.tup (nums r), .sh), some (.int j, .sh)], rfl, ?_, rfl⟩
      have e : Ev G C (.op2 .add (.var 5) (.tup [(.var 6)])) [some (.int n, .sh), some (k, .sh), some (rows, .sh), some (turn, .sh), some (.lst (rowsT acc), .sh), some (.tup (nums r), .sh), some (.int j, .sh)] (.tup (nums (r ++ [j]))) true [some (.int n, .sh), some (k, .sh), some (rows, .sh), some (turn, .sh), some (.lst (rowsT acc), .sh), some (.tup (nums r), .sh), some (.int j, .sh)] :=
        Ev.two rfl rfl (Ev.var rfl Lf.nums) (Ev.tup1 (Ev.var rfl Lf.int)) (add_one hr)
      rw [e.h]
      simp [nums]) (by rw [nums_len, List.length_range]; exact Nat.le_trans hn (by simp [LIM]))
  have e1 : (nums (List.range n)).map (fun x => ((T.tup (nums r ++ [x]), true) : T × Bool).1) = rowsT ((List.range n).map fun x => r ++ [x]) := by
    unfold rowsT nums
    rw [List.map_map, List.map_map]
    refine List.map_congr_left fun x _ => ?_
    simp
  rw [e1, rowsT_lf] at q
  have q : Ev G C (.lc (.nm 6) (.op1 .rng (.var 0)) [] (.op2 .add (.var 5) (.tup [(.var 6)])) [6]) [some (.int n, .sh), some (k, .sh), some (rows, .sh), some (turn, .sh), some (.lst (rowsT acc), .sh), some (.tup (nums r), .sh), none] (.lst (rowsT ((List.range n).map fun x => r ++ [x]))) true [some (.int n, .sh), some (k, .sh), some (rows, .sh), some (turn, .sh), some (.lst (rowsT acc), .sh), some (.tup (nums r), .sh), none] := ⟨q⟩
  have ad : V2 .add (.lst (rowsT acc)) (.lst (rowsT ((List.range n).map fun x => r ++ [x]))) (.lst (rowsT (acc ++ (List.range n).map fun x => r ++ [x]))) := ⟨by
    have e : (rowsT acc).length + (rowsT ((List.range n).map fun x => r ++ [x])).length ≤ LIM := by
      rw [rowsT_len, rowsT_len, List.length_map, List.length_range]; unfold LIM; omega
    simp only [o2, addT, e, if_true]
    simp [rowsT], by
    show (T.lst (rowsT (acc ++ (List.range n).map fun x => r ++ [x]))).inner = true
    rw [T.inner]; exact rowsT_lf _⟩
  exact Sts.cons (St.set (Ev.two rfl rfl (Ev.varL rfl) q ad)) Sts.nil
theorem lrow_go {n : Nat} {k rows turn : T} (hn : n ≤ 6) : ∀ (ls acc : List (List Nat)) (z : Option (T × Ow)), (∀ r ∈ ls, r.length ≤ 1000) → acc.length + 6 * ls.length ≤ 8000 →
    ∃ z', forGo (.nm 5) none (fun s3 => exs G C [.set 4 (.op2 .add (.var 4) (.lc (.nm 6) (.op1 .rng (.var 0)) [] (.op2 .add (.var 5) (.tup [(.var 6)])) [6]))] s3) (rowsT ls) [some (.int n, .sh), some (k, .sh), some (rows, .sh), some (turn, .sh), some (.lst (rowsT acc), .sh), z, none] = .nx [some (.int n, .sh), some (k, .sh), some (rows, .sh), some (turn, .sh), some (.lst (rowsT (acc ++ longer n ls)), .sh), z', none]
  | [], acc, z, _, _ => ⟨z, by simp [rowsT, forGo, unlk, longer]⟩
  | r :: ls, acc, z, hr, hl => by
    rw [List.length_cons] at hl
    obtain ⟨z', q⟩ := lrow_go (k := k) (rows := rows) (turn := turn) hn ls (acc ++ (List.range n).map fun x => r ++ [x]) (some (.tup (nums r), .sh)) (fun x hx => hr x (by simp [hx])) (by simp; omega)
    refine ⟨z', ?_⟩
    show forGo _ none _ (.tup (nums r) :: rowsT ls) _ = _
    rw [forGo]
    show (match exs G C _ [some (.int n, .sh), some (k, .sh), some (rows, .sh), some (turn, .sh), some (.lst (rowsT acc), .sh), some (.tup (nums r), .sh), none] with | .nx s2 => _ | r => r) = _
    rw [(lrow_turn (C := C) (k := k) (rows := rows) (turn := turn) (acc := acc) (r := r) hn (hr r (by simp)) (by omega)).h]
    show forGo _ none _ (rowsT ls) _ = _
    rw [q]
    have e : acc ++ longer n (r :: ls) = acc ++ ((List.range n).map fun x => r ++ [x]) ++ longer n ls := by
      unfold longer; rw [List.flatMap_cons, List.append_assoc]
    rw [e]
def lrB : List S := [.set 4 (.lst []), .fr (.nm 5) (.var 2) [.set 4 (.op2 .add (.var 4) (.lc (.nm 6) (.op1 .rng (.var 0)) [] (.op2 .add (.var 5) (.tup [(.var 6)])) [6]))], .set 2 (.op1 .list (.var 4))]
theorem lrows_go {n : Nat} {k : T} (hn : n ≤ 6) : ∀ (ts : List T) (j : Nat) (z z4 z5 : Option (T × Ow)), j + ts.length ≤ 4 → ∃ z' z4' z5', forGo (.nm 3) none (fun s3 => exs G C lrB s3) ts [some (.int n, .sh), some (k, .sh), some (.lst (rowsT (rowsN n j)), .sh), z, z4, z5, none] = .nx [some (.int n, .sh), some (k, .sh), some (.lst (rowsT (rowsN n (j + ts.length))), .sh), z', z4', z5', none]
  | [], j, z, z4, z5, _ => ⟨z, z4, z5, rfl⟩
  | x :: ts, j, z, z4, z5, h => by
    rw [List.length_cons] at h
    have hl : (rowsN n j).length ≤ 1300 := by
      rw [rowsN_len]
      have h1 : n ^ j ≤ 6 ^ j := Nat.pow_le_pow_left hn j
      have h2 : 6 ^ j ≤ 6 ^ 3 := Nat.pow_le_pow_right (by omega) (by omega)
      omega
    obtain ⟨z5', p⟩ := lrow_go (C := C) (k := k) (rows := .lst (rowsT (rowsN n j))) (turn := x) hn (rowsN n j) [] z5 (fun r hr => by rw [(rowsN_mem hr).1]; omega) (by simp; omega)
    rw [List.nil_append] at p
    obtain ⟨z', z4', z6, q⟩ := lrows_go (n := n) (k := k) hn ts (j + 1) (some (x, .sh)) (some (.lst (rowsT (rowsN n (j + 1))), .sh)) z5' (by omega)
    refine ⟨z', z4', z6, ?_⟩
    have ls : V1 .list (.lst (rowsT (rowsN n (j + 1)))) (.lst (rowsT (rowsN n (j + 1)))) := ⟨rfl, by
      show (T.lst (rowsT (rowsN n (j + 1)))).inner = true
      rw [T.inner]; exact rowsT_lf _⟩
    have hb : Sts G C lrB [some (.int n, .sh), some (k, .sh), some (.lst (rowsT (rowsN n j)), .sh), some (x, .sh), z4, z5, none] (.nx [some (.int n, .sh), some (k, .sh), some (.lst (rowsT (rowsN n (j + 1))), .sh), some (x, .sh), some (.lst (rowsT (rowsN n (j + 1))), .sh), z5', none]) :=
      Sts.cons (St.set Ev.lst0) (Sts.cons ⟨x_fr1 rfl (Ev.varL (C := C) (G := G) (s := [some (.int n, .sh), some (k, .sh), some (.lst (rowsT (rowsN n j)), .sh), some (x, .sh), some (.lst [], .sh), z5, none]) (i := 2) (l := rowsT (rowsN n j)) rfl).h rfl p⟩ (Sts.cons (St.set (Ev.one rfl (Ev.varL rfl) ls)) Sts.nil))
    rw [forGo]
    show (match exs G C _ [some (.int n, .sh), some (k, .sh), some (.lst (rowsT (rowsN n j)), .sh), some (x, .sh), z4, z5, none] with | .nx s2 => _ | r => r) = _
    rw [hb.h]
    show forGo _ none _ ts _ = _
    rw [q]
    have e : j + 1 + ts.length = j + (x :: ts).length := by rw [List.length_cons]; omega
    rw [e]
/-! _law_count -/
theorem law_count_run {i : Nat} (h : i < 18) (h13 : i ≠ 13) : runFn G C B_law_count [wd i] = .ok (.int (cntN i)) true [] := by
  have hx : i = 0 ∨ i = 1 ∨ i = 2 ∨ i = 3 ∨ i = 4 ∨ i = 5 ∨ i = 6 ∨ i = 7 ∨ i = 8 ∨ i = 9 ∨ i = 10 ∨ i = 11 ∨ i = 12 ∨ i = 14 ∨ i = 15 ∨ i = 16 ∨ i = 17 := by omega
  rcases hx with rfl | rfl | rfl | rfl | rfl | rfl | rfl | rfl | rfl | rfl | rfl | rfl | rfl | rfl | rfl | rfl | rfl
  · apply run_s (F := B_law_count) rfl (s0 := [some (wd 0, .sh)]) rfl
    · walk_at "stgo"
    · rfl
  · apply run_s (F := B_law_count) rfl (s0 := [some (wd 1, .sh)]) rfl
    · walk_at "stgo"
    · rfl
  · apply run_s (F := B_law_count) rfl (s0 := [some (wd 2, .sh)]) rfl
    · walk_at "stgo"
    · rfl
  · apply run_s (F := B_law_count) rfl (s0 := [some (wd 3, .sh)]) rfl
    · walk_at "stgo"
    · rfl
  · apply run_s (F := B_law_count) rfl (s0 := [some (wd 4, .sh)]) rfl
    · walk_at "stgo"
    · rfl
  · apply run_s (F := B_law_count) rfl (s0 := [some (wd 5, .sh)]) rfl
    · walk_at "stgo"
    · rfl
  · apply run_s (F := B_law_count) rfl (s0 := [some (wd 6, .sh)]) rfl
    · walk_at "stgo"
    · rfl
  · apply run_s (F := B_law_count) rfl (s0 := [some (wd 7, .sh)]) rfl
    · walk_at "stgo"
    · rfl
  · apply run_s (F := B_law_count) rfl (s0 := [some (wd 8, .sh)]) rfl
    · walk_at "stgo"
    · rfl
  · apply run_s (F := B_law_count) rfl (s0 := [some (wd 9, .sh)]) rfl
    · walk_at "stgo"
    · rfl
  · apply run_s (F := B_law_count) rfl (s0 := [some (wd 10, .sh)]) rfl
    · walk_at "stgo"
    · rfl
  · apply run_s (F := B_law_count) rfl (s0 := [some (wd 11, .sh)]) rfl
    · walk_at "stgo"
    · rfl
  · apply run_s (F := B_law_count) rfl (s0 := [some (wd 12, .sh)]) rfl
    · walk_at "stgo"
    · rfl
  · apply run_s (F := B_law_count) rfl (s0 := [some (wd 14, .sh)]) rfl
    · walk_at "stgo"
    · rfl
  · apply run_s (F := B_law_count) rfl (s0 := [some (wd 15, .sh)]) rfl
    · walk_at "stgo"
    · rfl
  · apply run_s (F := B_law_count) rfl (s0 := [some (wd 16, .sh)]) rfl
    · walk_at "stgo"
    · rfl
  · apply run_s (F := B_law_count) rfl (s0 := [some (wd 17, .sh)]) rfl
    · walk_at "stgo"
    · rfl
/-! found_objection, _law_of -/
def ItC (C : Nat → List T → CR) (t : List Nat) (i : Nat) : Prop := ∀ row : List Nat, row.length = cntN i → (∀ x ∈ row, x < t.length) → Cv C f_breaks_it [tieT t, wd i, .tup (nums row)] (.bl (badN t i row)) true
def BadC (C : Nat → List T → CR) (t : List Nat) (i : Nat) : Prop := ∀ row : List Nat, row.length = cntN i → (∀ x ∈ row, x < t.length) → Cv C f_law_bad [tieT t, wd i, .tup (nums row)] (.bl (badN t i row)) true
theorem cons_w {i : Nat} {r : List Nat} (hr : r.length ≤ 1000) : V2 .add (.tup [wd i]) (.tup (nums r)) (.tup (wd i :: nums r)) → True := fun _ => trivial
theorem lf_told {i : Nat} {r : List Nat} (h : i < 18) : T.lfL (wd i :: nums r) = true := by rw [T.lfL, lf_n h, nums_lf]; rfl
theorem add_told {i : Nat} {r : List Nat} (h : i < 18) (hr : r.length ≤ 1000) : V2 .add (.tup [wd i]) (.tup (nums r)) (.tup (wd i :: nums r)) := ⟨by
  have e : 1 + (nums r).length ≤ LIM := by rw [nums_len]; unfold LIM; omega
  simp [o2, addT, LIM] at e ⊢
  exact e, by
  show (T.tup (wd i :: nums r)).inner = true
  rw [T.inner]; exact lf_told h⟩
theorem cnt_le (i : Nat) : cntN i ≤ 4 := by
  unfold cntN
  split
  · omega
  · split
    · omega
    · split <;> omega
def foB : List S := [.iff (.call f_breaks_it [(.var 0), (.var 1), (.var 2)]) [.ret (.op2 .add (.tup [(.var 1)]) (.var 2))] []]
theorem fo_go {i : Nat} (hi : i < 18) (hI : ItC C t i) : ∀ (rs : List (List Nat)) (a : Option (T × Ow)), (∀ r ∈ rs, r.length = cntN i ∧ ∀ x ∈ r, x < t.length) →
    ∃ a', forGo (.nm 2) none (fun s3 => exs G C foB s3) (rowsT rs) [some (tieT t, .sh), some (wd i, .sh), a, none] = (match rs.find? (badN t i) with | some r => .rt (.tup (wd i :: nums r)) true [some (tieT t, .sh), some (wd i, .sh), a', none] | none => .nx [some (tieT t, .sh), some (wd i, .sh), a', none])
  | [], a, _ => ⟨a, rfl⟩
  | r :: rs, a, h => by
    obtain ⟨h1, h2⟩ := h r (by simp)
    have c := hI r h1 h2
    have hl : r.length ≤ 1000 := by have := cnt_le i; omega
    have ec : Ev G C (.call f_breaks_it [(.var 0), (.var 1), (.var 2)]) [some (tieT t, .sh), some (wd i, .sh), some (.tup (nums r), .sh), none] (.bl (badN t i r)) true [some (tieT t, .sh), some (wd i, .sh), some (.tup (nums r), .sh), none] :=
      Ev.call3 (F := B_breaks_it) rfl rfl rfl rfl rfl (Ev.var rfl lfT) (Ev.var rfl (Lf.wd hi)) (Ev.var rfl Lf.nums) c
    cases hb : badN t i r with
    | true =>
      refine ⟨some (.tup (nums r), .sh), ?_⟩
      show forGo _ none _ (.tup (nums r) :: rowsT rs) _ = _
      rw [forGo]
      show (match exs G C _ [some (tieT t, .sh), some (wd i, .sh), some (.tup (nums r), .sh), none] with | .nx s2 => _ | r => r) = _
      rw [hb] at ec
      have hs : Sts G C foB [some (tieT t, .sh), some (wd i, .sh), some (.tup (nums r), .sh), none] (.rt (.tup (wd i :: nums r)) true [some (tieT t, .sh), some (wd i, .sh), some (.tup (nums r), .sh), none]) :=
        Sts.rt (St.iffT ec Tr.blT (Sts.rt (St.ret (Ev.two rfl rfl (Ev.tup1 (Ev.var rfl (Lf.wd hi))) (Ev.var rfl Lf.nums) (add_told hi hl)))))
      rw [hs.h, List.find?_cons, hb]
    | false =>
      obtain ⟨a', q⟩ := fo_go hi hI rs (some (.tup (nums r), .sh)) fun x hx => h x (by simp [hx])
      refine ⟨a', ?_⟩
      show forGo _ none _ (.tup (nums r) :: rowsT rs) _ = _
      rw [forGo]
      show (match exs G C _ [some (tieT t, .sh), some (wd i, .sh), some (.tup (nums r), .sh), none] with | .nx s2 => _ | r => r) = _
      rw [hb] at ec
      have hs : Sts G C foB [some (tieT t, .sh), some (wd i, .sh), some (.tup (nums r), .sh), none] (.nx [some (tieT t, .sh), some (wd i, .sh), some (.tup (nums r), .sh), none]) := Sts.cons (St.skip ec Tr.blF) Sts.nil
      rw [hs.h, List.find?_cons, hb]
      exact q
def plc : T → Option T | .str s => h_PLACES.lookup s | _ => none
theorem plc_all : ((List.range 18).all fun i => i == 13 || (match plc (wd i) with | some (.int k) => k == (cntN i : Int) | _ => false)) = true := by decide +kernel
theorem places {i : Nat} (h : i < 18) (h13 : i ≠ 13) : ∃ s, wd i = .str s ∧ h_PLACES.lookup s = some (.int (cntN i)) := by
  obtain ⟨s, e⟩ := wd_of h
  have q := List.all_eq_true.mp plc_all i (List.mem_range.mpr h)
  rw [e] at q
  have h' : (i == 13) = false := by simp [h13]
  rw [h', Bool.false_or] at q
  refine ⟨s, e, ?_⟩
  unfold plc at q
  simp only at q
  split at q
  · rename_i k hk
    rw [hk]
    have := beq_iff_eq.mp q
    rw [this]
  · cases q
theorem dgE {s : Sl} {k i : Nat} (h : i < 18) (h13 : i ≠ 13) (hr : rd s k = some (wd i, .sh)) : Ev G C (.dget t_PLACES (.var k)) s (.int (cntN i)) true s := ⟨by
  obtain ⟨z, e, l⟩ := places h h13
  have hv : ev G C (.var k) s = .ok (.str z, true) s := by
    rw [e] at hr
    exact varE hr (by simp [T.lf])
  exact dgetE rfl hv rfl l (by simp [T.lf])⟩
def RowsC (C : Nat → List T → CR) (n : Nat) : Prop := ∀ k : Nat, k ≤ 4 → Cv C f_rows_of [.int n, .int k] (.lst (rowsT (rowsN n k))) false
theorem found_run {i : Nat} (h : i < 18) (h13 : i ≠ 13) (hI : ItC C t i) (hR : RowsC C t.length) : runFn G C B_found_objection [tieT t, wd i] = .ok (match (rowsN t.length (cntN i)).find? (badN t i) with | some r => .tup (wd i :: nums r) | none => .non) true [] := by
  obtain ⟨a', q⟩ := fo_go (C := C) h hI (rowsN t.length (cntN i)) none fun r hr => rowsN_mem hr
  have c := hR (cntN i) (cnt_le i)
  have l : V1 .len (tieT t) (.int t.length) := V1.lenN
  have e1 : Ev G C (.op2 .eq (.var 1) (.con (.str "acyc"))) [some (tieT t, .sh), some (wd i, .sh), none, none] (.bl (decide (i = 13))) true [some (tieT t, .sh), some (wd i, .sh), none, none] := Ev.two rfl rfl (Ev.var rfl (Lf.wd h)) Ev.con (q13 h)
  have e2 : Ev G C (.call f_rows_of [(.op1 .len (.var 0)), (.dget t_PLACES (.var 1))]) [some (tieT t, .sh), some (wd i, .sh), none, none] (.lst (rowsT (rowsN t.length (cntN i)))) false [some (tieT t, .sh), some (wd i, .sh), none, none] :=
    Ev.call2 (F := B_rows_of) rfl rfl rfl rfl (Ev.one rfl (Ev.var rfl lfT) l) (dgE h h13 rfl) c
  have t1 : Tr (.bl (decide (i = 13))) false := Tr.of (by simp [h13])
  cases hf : (rowsN t.length (cntN i)).find? (badN t i) with
  | some r =>
    rw [hf] at q
    apply run_s (F := B_found_objection) rfl (s0 := [some (tieT t, .sh), some (wd i, .sh), none, none]) rfl
    · exact Sts.cons (St.skip e1 t1) (Sts.rt ⟨x_fr1 rfl e2.h rfl q⟩)
    · rfl
  | none =>
    rw [hf] at q
    apply run_s (F := B_found_objection) rfl (s0 := [some (tieT t, .sh), some (wd i, .sh), none, none]) rfl
    · exact Sts.cons (St.skip e1 t1) (Sts.cons ⟨x_fr1 rfl e2.h rfl q⟩ (Sts.rt (St.ret Ev.con)))
    · rfl
def decR : T → List Nat
  | .tup xs => xs.map fun z => match z with | .int k => k.toNat | _ => 0
  | _ => []
theorem dec_nums (r : List Nat) : decR (.tup (nums r)) = r := by
  unfold decR nums
  simp only [List.map_map]
  conv => rhs; rw [← List.map_id r]
  rfl
theorem rows_any {p : List Nat → Bool} (l : List (List Nat)) : (rowsT l).any (fun z => p (decR z)) = l.any p := by
  induction l with
  | nil => rfl
  | cons a l ih =>
    show (p (decR (.tup (nums a))) || (rowsT l).any _) = _
    rw [ih, dec_nums]; rfl
def CountC (C : Nat → List T → CR) (i : Nat) : Prop := Cv C f_law_count [wd i] (.int (cntN i)) true
end

local macro_rules | `(tactic| walk_at "lfgo") => `(tactic| first | exact Lf.int | exact Lf.bl | exact Lf.nums | exact lfT | exact Lf.non | exact Lf.str | exact Lf.wd (by first | decide | assumption) | assumption)
local macro_rules | `(tactic| walk_at "trT") => `(tactic| first | exact Tr.blT | (apply Tr.of; decide) | (apply Tr.of; rfl) | (apply Tr.of; simp only [*]; done) | (apply Tr.of; simp only [*]; rfl) | fail)
local macro_rules | `(tactic| walk_at "trF") => `(tactic| first | exact Tr.blF | (apply Tr.of; decide) | (apply Tr.of; rfl) | (apply Tr.of; simp only [*]; done) | (apply Tr.of; simp only [*]; rfl) | fail)
local macro_rules | `(tactic| walk_at "vgo") => `(tactic| first | exact V2.eqN | exact V2.eqI | exact V2.neN | exact V2.eqB | exact V2.neB | exact idT (by assumption) | exact ix0 | exact ix1 | exact ix2 | exact ixL rfl | exact V1.neg1 | exact V2.lt | exact V2.le | exact V2.gt | exact V2.ge | exact V1.lenN | exact V1.lenNl | exact V1.isTup | exact V1.isInt | exact V1.isBoolI | exact V1.isBoolB | exact V1.isNn | exact V1.isNt | exact V1.notNn | exact V1.notNt | exact V1.isStr (by first | decide | assumption) | exact Mm.nm | exact Mm.nmt | exact q0 (by decide) | exact q1 (by decide) | exact q2 (by decide) | exact q3 (by decide) | exact q4 (by decide) | exact q5 (by decide) | exact q6 (by decide) | exact q7 (by decide) | exact q8 (by decide) | exact q9 (by decide) | exact q10 (by decide) | exact q11 (by decide) | exact q12 (by decide) | exact q13 (by decide) | exact q14 (by decide) | exact q15 (by decide) | exact q16 (by decide) | exact q17 (by decide) | exact r_tup_asym_anti (by decide) | exact r_tup_total_conn (by decide) | exact r_tup_refl_irr_serial_inv (by decide) | exact r_lst_refl_irr_serial_inv (by decide) | exact r_lst_trans_neg_eucl_func (by decide) | exact r_lst_refl_irr (by decide) | exact r_lst_sym_asym (by decide) | exact r_lst_anti_conn (by decide) | exact r_lst_total_full (by decide) | exact r_lst_ident_one (by decide) | apply V2.mem | apply V2.nmem | fail)
local macro_rules | `(tactic| walk_at "ev1") => `(tactic| first | exact Ev.con | assumption | exact Ev.var rfl (by walk_at "lfgo") | exact Ev.varL rfl | apply Ev.and | apply Ev.or | apply Ev.chain | apply Ev.not rfl | apply Ev.call1 rfl rfl rfl | apply Ev.call2 rfl rfl rfl rfl | apply Ev.call3 rfl rfl rfl rfl rfl | apply Ev.call4 rfl rfl rfl rfl rfl rfl | apply Ev.call5 rfl rfl rfl rfl rfl rfl rfl | apply Ev.call0 rfl rfl | walk_at "ite" | apply Ev.one rfl | apply Ev.two rfl rfl | exact Ev.tup0 | exact Ev.lst0 | apply Ev.tup1 | apply Ev.tup2 | apply Ev.tup4 | apply Ev.lst2 | apply Ev.lst3 | apply Ev.lst4 | walk_at "vgo" | apply_assumption | fail)
local macro_rules | `(tactic| walk_at "evgo") => `(tactic| repeat' (walk_at "ev1"))
local macro_rules | `(tactic| walk_at "ite") => `(tactic| first | (apply Ev.iteT; (· walk_at "evgo"); (· walk_at "trT")) | (apply Ev.iteF; (· walk_at "evgo"); (· walk_at "trF")) | fail)
local macro_rules | `(tactic| walk_at "st1") => `(tactic| first | exact Sts.nil | (apply Sts.rt; apply St.ret; walk_at "evgo") | (apply Sts.cons; (· (apply St.skip; (· walk_at "evgo"); (· walk_at "trF")))) | (apply Sts.rt; apply St.iffT; (· walk_at "evgo"); (· walk_at "trT")) | (apply Sts.cons; (· (apply St.set; (· walk_at "evgo")))) | (apply Sts.cons; (· (apply St.par2; (· walk_at "evgo"); (· walk_at "evgo"); (· rfl)))) | (apply Sts.cons; (· (apply St.unp; (· walk_at "evgo"); (· rfl)))) | fail)
local macro_rules | `(tactic| walk_at "stgo") => `(tactic| repeat' (walk_at "st1"))
section
variable {C : Nat → List T → CR} {t : List Nat}
theorem objection_run {i : Nat} {z : T} (h : i < 18) (h1 : Cv C f_check_tie [tieT t] .non true) (h2 : Cv C f_check_word [wd i] .non true) (h3 : Cv C f_found_objection [tieT t, wd i] z true) : runFn G C B_objection [tieT t, wd i] = .ok z true [] := by
  apply run_s (F := B_objection) rfl (s0 := [some (tieT t, .sh), some (wd i, .sh)]) rfl
  · exact Sts.cons (St.drop (Ev.call1 (F := B_check_tie) rfl rfl rfl (Ev.var rfl lfT) h1)) (Sts.cons (St.drop (Ev.call1 (F := B_check_word) rfl rfl rfl (Ev.var rfl (Lf.wd h)) h2)) (Sts.rt (St.ret (Ev.call2 (F := B_found_objection) rfl rfl rfl rfl (Ev.var rfl lfT) (Ev.var rfl (Lf.wd h)) h3))))
  · rfl
/-! told objections -/
theorem lfTold {i : Nat} {xs : List T} (h : i < 18) (hx : T.lfL xs = true) : Lf (.tup (wd i :: xs)) := ⟨by rw [T.lf, T.lfL, lf_n h, hx]; rfl⟩
theorem lenT1 {x : T} {xs : List T} : V1 .len (.tup (x :: xs)) (.int ((xs.length + 1 : Nat) : Int)) := ⟨by simp [o1, lenT], rfl⟩
theorem idx0T {x : T} {xs : List T} (h : x.lf = true) : V2 .idx (.tup (x :: xs)) (.int 0) x := ⟨by
  have e : ixN (x :: xs).length 0 = some 0 := by simp [ixN]
  simp [o2, idxT, ixN], by simp [O2.rk, Rk.own, h]⟩
theorem from1T {x : T} {xs : List T} (h : T.lfL xs = true) : V2 .from (.tup (x :: xs)) (.int 1) (.tup xs) := ⟨by
  simp [o2, cutT, cut, sIx], by
  show (T.tup xs).inner = true
  rw [T.inner]; exact h⟩
theorem idx0 {x : T} {xs : List T} (h : x.lf = true) : V2 .idx (.tup (x :: xs)) (.int 0) x := idx0T h
theorem or_ff {s : Sl} {a b : E} (h1 : Ev G C a s (.bl false) true s) (h2 : Ev G C b s (.bl false) true s) : Ev G C (.or a b) s (.bl false) true s := Ev.or (p := false) (q := false) h1 h2
theorem not_t {s : Sl} {a : E} {w : Bool} (ha : a.asBrw = none) (h1 : Ev G C a s (.bl true) w s) : Ev G C (.op1 .notO a) s (.bl false) true s := Ev.not (p := true) ha h1
theorem to_f {s : Sl} {a : E} {p w : Bool} (h1 : Ev G C a s (.bl p) w s) (h : p = false) : Ev G C a s (.bl false) w s := h ▸ h1
theorem to_t {s : Sl} {a : E} {p w : Bool} (h1 : Ev G C a s (.bl p) w s) (h : p = true) : Ev G C a s (.bl true) w s := h ▸ h1
def ThingOkC (C : Nat → List T → CR) (f : Nat) (t : List Nat) : Prop := ∀ x : Nat, Cv C f [tieT t, .int x] (.bl (decide (x < t.length))) true
/-- all are things -/
theorem all_things {s : Sl} {f k v : Nat} {F : Fn} {row : List Nat} (hF : G.fns[f]? = some F) (hm : F.md = [.va, .va]) (hC : ThingOkC C f t) (hr : ∀ x ∈ row, x < t.length) (hl : row.length ≤ 1000) (hv : rd s v = some (.tup (nums row), .sh)) (h0 : rd s 0 = some (tieT t, .sh)) (hk : mayHide s [k] = true) (hk0 : k ≠ 0) (hkl : k < s.length) :
    Ev G C (.op1 .all (.lc (.nm k) (.var v) [] (.call f [(.var 0), (.var k)]) [k])) s (.bl true) true s := by
  have q := ev_all (G := G) (C := C) (t := .nm k) (it := .var v) (elt := .call f [(.var 0), (.var k)]) (own := [k]) (s := s) (s1 := s) (xs := nums row) (p := pN fun x => decide (x < t.length)) (ag_of rfl (Ev.h (Ev.var hv Lf.nums))) rfl hk (fun z hz => by
    obtain ⟨x, hx, rfl⟩ := List.mem_map.mp hz
    refine ⟨put (wipe s [k]) k (.int x) .sh, rfl, ?_, wipe_put⟩
    have r1 : rd (put (wipe s [k]) k (.int x) .sh) k = some (.int x, .sh) := rd_put_self (by rw [wipe_len]; exact hkl)
    have r0 : rd (put (wipe s [k]) k (.int x) .sh) 0 = some (tieT t, .sh) := by rw [rd_put_ne hk0, rd_wipe_ne hk0, h0]
    exact (Ev.call2 hF hm rfl rfl (Ev.var r0 lfT) (Ev.var r1 Lf.int) (hC x)).h) (by rw [nums_len]; exact Nat.le_trans hl (by simp [LIM]))
  rw [nums_all] at q
  have e : row.all (fun x => decide (x < t.length)) = true := List.all_eq_true.mpr fun x hx => decide_eq_true (hr x hx)
  rw [e] at q
  exact ⟨q⟩
theorem takes_run {i : Nat} {row : List Nat} (h : i < 18) (h13 : i ≠ 13) (hl : row.length = cntN i) (hr : ∀ x ∈ row, x < t.length) (hb : badN t i row = true) (h1 : Cv C f_check_tie [tieT t] .non true) (hI : ItC C t i) (hT : ThingOkC C f_is_thing t) : runFn G C B_takes_objection [tieT t, .tup (wd i :: nums row)] = .ok (.bl true) true [] := by
  have c := hI row hl hr
  rw [hb] at c
  have l4 := cnt_le i
  have lv := lfTold (xs := nums row) h (nums_lf row)
  have pos : 1 ≤ cntN i := by unfold cntN; split; omega; split; omega; split <;> omega
  have v1 : ∀ s : Sl, rd s 1 = some (.tup (wd i :: nums row), .sh) → Ev G C (.var 1) s (.tup (wd i :: nums row)) true s := fun s q => Ev.var q lv
  have i0 : ∀ s : Sl, rd s 1 = some (.tup (wd i :: nums row), .sh) → Ev G C (.op2 .idx (.var 1) (.con (.int 0))) s (wd i) true s := fun s q => Ev.two rfl rfl (v1 s q) Ev.con (idx0T (lf_n h))
  have mw : Mm (wd i) (.tup (enc (List.range 18))) true := ⟨by rw [mem_tup h range18_lt]; simp [h]⟩
  have cond : Ev G C (.or (.op1 .notO (.op1 (.isK .tuple) (.var 1))) (.or (.op2 .lt (.op1 .len (.var 1)) (.con (.int 2))) (.or (.op1 .notO (.op1 (.isK .str) (.op2 .idx (.var 1) (.con (.int 0))))) (.op2 .nmem (.op2 .idx (.var 1) (.con (.int 0))) (.gl g_WORDS))))) [some (tieT t, .sh), some (.tup (wd i :: nums row), .sh), none, none, none] (.bl false) true [some (tieT t, .sh), some (.tup (wd i :: nums row), .sh), none, none, none] :=
    or_ff (not_t rfl (Ev.one rfl (v1 _ rfl) V1.isTup)) (or_ff (to_f (Ev.two rfl rfl (Ev.one rfl (v1 _ rfl) lenT1) Ev.con V2.lt) (by rw [nums_len, hl, decide_eq_false_iff_not]; omega))
      (or_ff (not_t rfl (Ev.one rfl (i0 _ rfl) (V1.isStr h))) (to_f (Ev.two rfl rfl (i0 _ rfl) glW (V2.nmem mw)) rfl)))
  have s1 : St G C (.par [(2, false), (3, false)] [(.op2 .idx (.var 1) (.con (.int 0))), (.op2 .from (.var 1) (.con (.int 1)))]) [some (tieT t, .sh), some (.tup (wd i :: nums row), .sh), none, none, none] (.nx [some (tieT t, .sh), some (.tup (wd i :: nums row), .sh), some (wd i, .sh), some (.tup (nums row), .sh), none]) :=
    St.par2 (i0 _ rfl) (Ev.two rfl rfl (v1 _ rfl) Ev.con (from1T (nums_lf row))) rfl
  have c2 : Ev G C (.or (.op2 .ne (.op1 .len (.var 3)) (.dget t_PLACES (.var 2))) (.op1 .notO (.op1 .all (.lc (.nm 4) (.var 3) [] (.call f_is_thing [(.var 0), (.var 4)]) [4])))) [some (tieT t, .sh), some (.tup (wd i :: nums row), .sh), some (wd i, .sh), some (.tup (nums row), .sh), none] (.bl false) true [some (tieT t, .sh), some (.tup (wd i :: nums row), .sh), some (wd i, .sh), some (.tup (nums row), .sh), none] :=
    or_ff (to_f (Ev.two rfl rfl (Ev.one rfl (Ev.var rfl Lf.nums) V1.lenN) (dgE h h13 rfl) V2.neN) (by simp [hl])) (not_t rfl (all_things (F := B_is_thing) (row := row) rfl rfl hT hr (by omega) rfl rfl rfl (by omega) (by simp)))
  apply run_s (F := B_takes_objection) rfl (s0 := [some (tieT t, .sh), some (.tup (wd i :: nums row), .sh), none, none, none]) rfl
  · exact Sts.cons (St.drop (Ev.call1 (F := B_check_tie) rfl rfl rfl (Ev.var rfl lfT) h1)) (Sts.cons (St.skip cond Tr.blF) (Sts.cons s1 (Sts.cons (St.skip (Ev.two rfl rfl (Ev.var rfl (Lf.wd h)) Ev.con (q13 h)) (Tr.of (by simp [h13]))) (Sts.cons (St.skip c2 Tr.blF)
      (Sts.rt (St.ret (Ev.call3 (F := B_breaks_it) rfl rfl rfl rfl rfl (Ev.var rfl lfT) (Ev.var rfl (Lf.wd h)) (Ev.var rfl Lf.nums) c)))))))
  · rfl
def WordsC (C : Nat → List T → CR) : Prop := Cv C f_law_words [] (.lst (enc (List.range 18))) true
theorem words_ok (n : Nat) : call G (n + 1) f_law_words [] = .ok (.lst wordsL) true [] := by kernel_rfl
theorem right_run {i : Nat} {row : List Nat} (h : i < 18) (h13 : i ≠ 13) (hl : row.length = cntN i) (hr : ∀ x ∈ row, x < t.length) (hb : badN t i row = true) (hI : BadC C t i) (hT : ThingOkC C f_law_thing t) (hW : WordsC C) (hC : CountC C i) : runFn G C B_law_right [tieT t, .tup (wd i :: nums row)] = .ok (.bl true) true [] := by
  have c := hI row hl hr
  rw [hb] at c
  have l4 := cnt_le i
  have lv := lfTold (xs := nums row) h (nums_lf row)
  have pos : 1 ≤ cntN i := by unfold cntN; split; omega; split; omega; split <;> omega
  have v1 : ∀ s : Sl, rd s 1 = some (.tup (wd i :: nums row), .sh) → Ev G C (.var 1) s (.tup (wd i :: nums row)) true s := fun s q => Ev.var q lv
  have i0 : ∀ s : Sl, rd s 1 = some (.tup (wd i :: nums row), .sh) → Ev G C (.op2 .idx (.var 1) (.con (.int 0))) s (wd i) true s := fun s q => Ev.two rfl rfl (v1 s q) Ev.con (idx0T (lf_n h))
  have mw : Mm (wd i) (.lst (enc (List.range 18))) true := ⟨by rw [mem_lst h range18_lt]; simp [h]⟩
  have cond : Ev G C (.or (.op1 .notO (.op1 (.isK .tuple) (.var 1))) (.or (.op2 .lt (.op1 .len (.var 1)) (.con (.int 2))) (.or (.op1 .notO (.op1 (.isK .str) (.op2 .idx (.var 1) (.con (.int 0))))) (.op2 .nmem (.op2 .idx (.var 1) (.con (.int 0))) (.call f_law_words []))))) [some (tieT t, .sh), some (.tup (wd i :: nums row), .sh), none, none, none, none, none] (.bl false) true [some (tieT t, .sh), some (.tup (wd i :: nums row), .sh), none, none, none, none, none] :=
    or_ff (not_t rfl (Ev.one rfl (v1 _ rfl) V1.isTup)) (or_ff (to_f (Ev.two rfl rfl (Ev.one rfl (v1 _ rfl) lenT1) Ev.con V2.lt) (by rw [nums_len, hl, decide_eq_false_iff_not]; omega))
      (or_ff (not_t rfl (Ev.one rfl (i0 _ rfl) (V1.isStr h))) (to_f (Ev.two rfl rfl (i0 _ rfl) (Ev.call0 (F := B_law_words) rfl rfl hW) (V2.nmem mw)) rfl)))
  have s1 : St G C (.par [(2, false), (3, false)] [(.op2 .idx (.var 1) (.con (.int 0))), (.op2 .from (.var 1) (.con (.int 1)))]) [some (tieT t, .sh), some (.tup (wd i :: nums row), .sh), none, none, none, none, none] (.nx [some (tieT t, .sh), some (.tup (wd i :: nums row), .sh), some (wd i, .sh), some (.tup (nums row), .sh), none, none, none]) :=
    St.par2 (i0 _ rfl) (Ev.two rfl rfl (v1 _ rfl) Ev.con (from1T (nums_lf row))) rfl
  have e1 : Ev G C (.op2 .eq (.op1 .len (.var 3)) (.call f_law_count [(.var 2)])) [some (tieT t, .sh), some (.tup (wd i :: nums row), .sh), some (wd i, .sh), some (.tup (nums row), .sh), none, none, none] (.bl true) true [some (tieT t, .sh), some (.tup (wd i :: nums row), .sh), some (wd i, .sh), some (.tup (nums row), .sh), none, none, none] :=
    to_t (Ev.two rfl rfl (Ev.one rfl (Ev.var rfl Lf.nums) V1.lenN) (Ev.call1 (F := B_law_count) rfl rfl rfl (Ev.var rfl (Lf.wd h)) hC) V2.eqN) (by simp [hl])
  have e2 := all_things (C := C) (F := B_law_thing) (f := f_law_thing) (k := 5) (v := 3) (row := row) (s := [some (tieT t, .sh), some (.tup (wd i :: nums row), .sh), some (wd i, .sh), some (.tup (nums row), .sh), none, none, none]) rfl rfl hT hr (by omega) rfl rfl rfl (by omega) (by simp)
  have e3 : Ev G C (.call f_law_bad [(.var 0), (.var 2), (.var 3)]) [some (tieT t, .sh), some (.tup (wd i :: nums row), .sh), some (wd i, .sh), some (.tup (nums row), .sh), none, none, none] (.bl true) true [some (tieT t, .sh), some (.tup (wd i :: nums row), .sh), some (wd i, .sh), some (.tup (nums row), .sh), none, none, none] :=
    Ev.call3 (F := B_law_bad) rfl rfl rfl rfl rfl (Ev.var rfl lfT) (Ev.var rfl (Lf.wd h)) (Ev.var rfl Lf.nums) c
  apply run_s (F := B_law_right) rfl (s0 := [some (tieT t, .sh), some (.tup (wd i :: nums row), .sh), none, none, none, none, none]) rfl
  · exact Sts.cons (St.skip cond Tr.blF) (Sts.cons s1 (Sts.cons (St.skip (Ev.two rfl rfl (Ev.var rfl (Lf.wd h)) Ev.con (q13 h)) (Tr.of (by simp [h13])))
      (Sts.rt (St.ret (Ev.and e1 (Ev.and e2 e3))))))
  · rfl
end

local macro_rules | `(tactic| walk_at "lfgo") => `(tactic| first | exact Lf.int | exact Lf.bl | exact Lf.nums | exact lfT | exact Lf.non | exact Lf.str | exact Lf.wd (by first | decide | assumption) | assumption)
local macro_rules | `(tactic| walk_at "trT") => `(tactic| first | exact Tr.blT | (apply Tr.of; decide) | (apply Tr.of; rfl) | (apply Tr.of; simp only [*]; done) | (apply Tr.of; simp only [*]; rfl) | fail)
local macro_rules | `(tactic| walk_at "trF") => `(tactic| first | exact Tr.blF | (apply Tr.of; decide) | (apply Tr.of; rfl) | (apply Tr.of; simp only [*]; done) | (apply Tr.of; simp only [*]; rfl) | fail)
local macro_rules | `(tactic| walk_at "vgo") => `(tactic| first | exact V2.eqN | exact V2.eqI | exact V2.neN | exact V2.eqB | exact V2.neB | exact idT (by assumption) | exact ix0 | exact ix1 | exact ix2 | exact ixL rfl | exact V1.neg1 | exact V2.lt | exact V2.le | exact V2.gt | exact V2.ge | exact V1.lenN | exact V1.lenNl | exact V1.isTup | exact V1.isInt | exact V1.isBoolI | exact V1.isBoolB | exact V1.isNn | exact V1.isNt | exact V1.notNn | exact V1.notNt | exact V1.isStr (by first | decide | assumption) | exact Mm.nm | exact Mm.nmt | exact q0 (by decide) | exact q1 (by decide) | exact q2 (by decide) | exact q3 (by decide) | exact q4 (by decide) | exact q5 (by decide) | exact q6 (by decide) | exact q7 (by decide) | exact q8 (by decide) | exact q9 (by decide) | exact q10 (by decide) | exact q11 (by decide) | exact q12 (by decide) | exact q13 (by decide) | exact q14 (by decide) | exact q15 (by decide) | exact q16 (by decide) | exact q17 (by decide) | exact r_tup_asym_anti (by decide) | exact r_tup_total_conn (by decide) | exact r_tup_refl_irr_serial_inv (by decide) | exact r_lst_refl_irr_serial_inv (by decide) | exact r_lst_trans_neg_eucl_func (by decide) | exact r_lst_refl_irr (by decide) | exact r_lst_sym_asym (by decide) | exact r_lst_anti_conn (by decide) | exact r_lst_total_full (by decide) | exact r_lst_ident_one (by decide) | apply V2.mem | apply V2.nmem | fail)
local macro_rules | `(tactic| walk_at "ev1") => `(tactic| first | exact Ev.con | assumption | exact Ev.var rfl (by walk_at "lfgo") | exact Ev.varL rfl | apply Ev.and | apply Ev.or | apply Ev.chain | apply Ev.not rfl | apply Ev.call1 rfl rfl rfl | apply Ev.call2 rfl rfl rfl rfl | apply Ev.call3 rfl rfl rfl rfl rfl | apply Ev.call4 rfl rfl rfl rfl rfl rfl | apply Ev.call5 rfl rfl rfl rfl rfl rfl rfl | apply Ev.call0 rfl rfl | walk_at "ite" | apply Ev.one rfl | apply Ev.two rfl rfl | exact Ev.tup0 | exact Ev.lst0 | apply Ev.tup1 | apply Ev.tup2 | apply Ev.tup4 | apply Ev.lst2 | apply Ev.lst3 | apply Ev.lst4 | walk_at "vgo" | apply_assumption | fail)
local macro_rules | `(tactic| walk_at "evgo") => `(tactic| repeat' (walk_at "ev1"))
local macro_rules | `(tactic| walk_at "ite") => `(tactic| first | (apply Ev.iteT; (· walk_at "evgo"); (· walk_at "trT")) | (apply Ev.iteF; (· walk_at "evgo"); (· walk_at "trF")) | fail)
local macro_rules | `(tactic| walk_at "st1") => `(tactic| first | exact Sts.nil | (apply Sts.rt; apply St.ret; walk_at "evgo") | (apply Sts.cons; (· (apply St.skip; (· walk_at "evgo"); (· walk_at "trF")))) | (apply Sts.rt; apply St.iffT; (· walk_at "evgo"); (· walk_at "trT")) | (apply Sts.cons; (· (apply St.set; (· walk_at "evgo")))) | (apply Sts.cons; (· (apply St.par2; (· walk_at "evgo"); (· walk_at "evgo"); (· rfl)))) | (apply Sts.cons; (· (apply St.unp; (· walk_at "evgo"); (· rfl)))) | fail)
local macro_rules | `(tactic| walk_at "stgo") => `(tactic| repeat' (walk_at "st1"))
/-! ### what is tied to what, by steps -/
theorem things_mem {t : List Nat} (hT : Tie t) {x y : Nat} : y ∈ thingsN (rowN t x) ↔ R t x y = true := by
  unfold thingsN
  rw [List.mem_filter, List.mem_range]
  refine ⟨fun h => h.2, fun h => ⟨?_, h⟩⟩
  have := (hT.r_lt h).2
  have := hT.six
  omega
theorem Reach.lt {t : List Nat} (hT : Tie t) {x y : Nat} (h : Reach t x y) : x < t.length ∧ y < t.length := by
  induction h with
  | one h => exact hT.r_lt h
  | more _ h2 ih => exact ⟨ih.1, (hT.r_lt h2).2⟩
theorem nodup_le : ∀ (n : Nat) (r : List Nat), r.Nodup → (∀ a ∈ r, a < n) → r.length ≤ n
  | 0, [], _, _ => Nat.le_refl _
  | 0, a :: r, _, h => absurd (h a (by simp)) (Nat.not_lt_zero _)
  | n + 1, r, hn, h => by
    by_cases hm : n ∈ r
    · have q := nodup_le n (r.erase n) (hn.erase n) (fun a ha => by
        have h1 := (List.Nodup.mem_erase_iff hn).mp ha
        have h2 := h a h1.2
        have h3 := h1.1
        omega)
      rw [List.length_erase_of_mem hm] at q
      omega
    · have q := nodup_le n r hn (fun a ha => by
        have h2 := h a ha
        have h3 : a ≠ n := fun e => hm (e ▸ ha)
        omega)
      omega
/-- the list so far, the place -/
structure LInv (t : List Nat) (x : Nat) (f : List Nat) (p : Nat) : Prop where
  nd : f.Nodup
  re : ∀ y ∈ f, Reach t x y
  on : ∀ y, R t x y = true → y ∈ f
  cl : ∀ k y, k < p → f[k]? = some y → ∀ z, R t y z = true → z ∈ f
  le : p ≤ f.length
theorem LInv.six {t : List Nat} (hT : Tie t) {x p : Nat} {f : List Nat} (h : LInv t x f p) : f.length ≤ 6 := by
  have := nodup_le t.length f h.nd fun a ha => ((h.re a ha).lt hT).2
  have := hT.six
  omega
theorem LInv.start {t : List Nat} (hT : Tie t) {x : Nat} : LInv t x (thingsN (rowN t x)) 0 :=
  ⟨List.Pairwise.filter _ (List.nodup_range ..), fun y hy => .one ((things_mem hT).mp hy), fun y hy => (things_mem hT).mpr hy, fun k y hk => by omega, Nat.zero_le _⟩
/-- what a turn adds -/
def newN (t : List Nat) (f : List Nat) (y : Nat) : List Nat := (thingsN (rowN t y)).filter fun z => !decide (z ∈ f)
theorem LInv.step {t : List Nat} (hT : Tie t) {x p y : Nat} {f : List Nat} (h : LInv t x f p) (hy : f[p]? = some y) : LInv t x (f ++ newN t f y) (p + 1) := by
  have hp : p < f.length := by
    rcases Nat.lt_or_ge p f.length with q | q
    · exact q
    · rw [List.getElem?_eq_none q] at hy; cases hy
  refine ⟨?_, ?_, ?_, ?_, by rw [List.length_append]; omega⟩
  · rw [List.nodup_append]
    refine ⟨h.nd, List.Pairwise.filter _ (List.Pairwise.filter _ (List.nodup_range ..)), fun a ha b hb e => ?_⟩
    unfold newN at hb
    have q := (List.mem_filter.mp hb).2
    subst e
    simp [ha] at q
  · intro z hz
    rcases List.mem_append.mp hz with q | q
    · exact h.re z q
    · unfold newN at q
      exact .more (h.re y (List.mem_of_getElem? hy)) ((things_mem hT).mp (List.mem_filter.mp q).1)
  · intro z hz
    exact List.mem_append_left _ (h.on z hz)
  · intro k w hk hw z hz
    by_cases e : k = p
    · subst e
      rw [List.getElem?_append_left hp, hy] at hw
      cases hw
      by_cases q : z ∈ f
      · exact List.mem_append_left _ q
      · refine List.mem_append_right _ ?_
        unfold newN
        rw [List.mem_filter]
        exact ⟨(things_mem hT).mpr hz, by simp [q]⟩
    · have hk' : k < p := by omega
      rw [List.getElem?_append_left (by omega)] at hw
      exact List.mem_append_left _ (h.cl k w hk' hw z hz)
theorem LInv.done {t : List Nat} {x : Nat} {f : List Nat} (h : LInv t x f f.length) (y : Nat) : y ∈ f ↔ Reach t x y := by
  refine ⟨h.re y, fun q => ?_⟩
  induction q with
  | one q => exact h.on _ q
  | more _ q ih =>
    obtain ⟨k, hk, e⟩ := List.mem_iff_getElem.mp ih
    exact h.cl k _ hk (by rw [List.getElem?_eq_getElem hk, e]) _ q
theorem sorNums (f : List Nat) (hf : f.length ≤ 1000) : ∃ l : List Nat, sorT (nums f) = some (nums l) ∧ ∀ y, y ∈ l ↔ y ∈ f := by
  have c : (T.pdL 59 (nums f) && T.lfL (nums f) && ((nums f).all fun a => (nums f).all fun b => PySem.W.alike a.dat b.dat) && ((nums f).all T.row || (nums f).all T.atom) && decide ((nums f).length ≤ LIM)) = true := by
    have a1 : ((nums f).all fun a => (nums f).all fun b => PySem.W.alike a.dat b.dat) = true := by
      rw [List.all_eq_true]
      intro a ha
      rw [List.all_eq_true]
      intro b hb
      obtain ⟨i, _, rfl⟩ := List.mem_map.mp ha
      obtain ⟨j, _, rfl⟩ := List.mem_map.mp hb
      simp [T.dat, PySem.W.alike]
    have a2 : (nums f).all T.atom = true := by
      rw [List.all_eq_true]
      intro a ha
      obtain ⟨i, _, rfl⟩ := List.mem_map.mp ha
      rfl
    have a3 : (nums f).length ≤ LIM := by rw [nums_len]; unfold LIM; omega
    rw [nums_pd, nums_lf, a1, a2]
    simp [a3]
  have perm := List.mergeSort_perm (nums f) leT
  have form : ∀ ys : List T, (∀ y ∈ ys, ∃ k ∈ f, y = .int (k : Nat)) → ∃ l : List Nat, ys = nums l := fun ys => by
    induction ys with
    | nil => exact fun _ => ⟨[], rfl⟩
    | cons y ys ih =>
      intro h
      obtain ⟨k, _, e⟩ := h y (by simp)
      obtain ⟨l, e2⟩ := ih fun z hz => h z (by simp [hz])
      exact ⟨k :: l, by rw [e, e2]; rfl⟩
  obtain ⟨l, e⟩ := form ((nums f).mergeSort leT) fun y hy => by
    obtain ⟨k, hk, e⟩ := List.mem_map.mp (perm.mem_iff.mp hy)
    exact ⟨k, hk, e.symm⟩
  refine ⟨l, ?_, fun y => ?_⟩
  · unfold sorT
    rw [if_pos c, e]
  · rw [e] at perm
    have inj : ∀ (m : List Nat), (T.int (y : Nat)) ∈ nums m ↔ y ∈ m := fun m => by
      unfold nums
      rw [List.mem_map]
      constructor
      · rintro ⟨k, hk, e⟩
        injection e with e
        have : k = y := by omega
        exact this ▸ hk
      · intro h; exact ⟨y, h, rfl⟩
    rw [← inj l, perm.mem_iff, inj f]
section
variable {C : Nat → List T → CR} {t : List Nat}
def ThingsC (C : Nat → List T → CR) : Prop := ∀ a : Nat, Cv C f_things_in [.int a] (.lst (nums (thingsN a))) true
def stG (t : List Nat) (x : Nat) (f : List Nat) (p : Nat) : Sl := [some (tieT t, .sh), some (.int x, .sh), some (.lst (nums f), .ow), some (.int p, .sh), none]
def ledB : List S := [.ext 2 (.lc (.nm 4) (.call f_things_in [(.op2 .idx (.var 0) (.op2 .idx (.brw 2) (.var 3)))]) [(.op2 .nmem (.var 4) (.brw 2))] (.var 4) [4]), .aug 3 .add (.con (.int 1))]
theorem led_turn (hT : Tie t) (hC : ThingsC C) {x p y : Nat} {f : List Nat} (hy : f[p]? = some y) (hyt : y < t.length) (hf : f.length ≤ 6) : Sts G C ledB (stG t x f p) (.nx (stG t x (f ++ newN t f y) (p + 1))) := by
  have e1 : Ev G C (.op2 .idx (.var 0) (.op2 .idx (.brw 2) (.var 3))) (stG t x f p) (.int (rowN t y)) true (stG t x f p) :=
    Ev.two rfl rfl (Ev.var rfl lfT) (Ev.twoa rfl (.inl rfl) (Ev.var rfl Lf.int) (V2.idxNl hy)) (idT hyt)
  have e2 := Ev.call1 (G := G) (C := C) (F := B_things_in) rfl rfl rfl e1 (hC (rowN t y))
  have q := ev_filt (G := G) (C := C) (t := .nm 4) (it := .call f_things_in [(.op2 .idx (.var 0) (.op2 .idx (.brw 2) (.var 3)))]) (c := .op2 .nmem (.var 4) (.brw 2)) (elt := .var 4) (own := [4]) (p := pN fun z => !decide (z ∈ f)) (ag_of rfl e2.h) rfl rfl (fun z hz => by
    obtain ⟨k, hk, rfl⟩ := List.mem_map.mp hz
    refine ⟨[some (tieT t, .sh), some (.int x, .sh), some (.lst (nums f), .ow), some (.int p, .sh), some (.int k, .sh)], rfl, Ev.h ?_, Ev.h (Ev.var rfl Lf.int), rfl⟩
    exact Ev.twob rfl (Ev.var rfl Lf.int) (.inl rfl) (V2.nmem Mm.nm)) (by
    rw [nums_len]
    have : (thingsN (rowN t y)).length ≤ 6 := by unfold thingsN; exact Nat.le_trans (List.length_filter_le _ _) (by simp)
    unfold LIM; omega)
  rw [nums_filter] at q
  have hl : (newN t f y).length ≤ 6 := by
    unfold newN thingsN
    exact Nat.le_trans (List.length_filter_le _ _) (Nat.le_trans (List.length_filter_le _ _) (by simp))
  have ex : St G C (.ext 2 (.lc (.nm 4) (.call f_things_in [(.op2 .idx (.var 0) (.op2 .idx (.brw 2) (.var 3)))]) [(.op2 .nmem (.var 4) (.brw 2))] (.var 4) [4])) (stG t x f p) (.nx (stG t x (f ++ newN t f y) p)) := ⟨by
    have hls : isLs (stG t x f p) 2 = true := rfl
    rw [ex1, if_pos hls, q]
    have hr : rd (stG t x f p) 2 = some (.lst (nums f), .ow) := rfl
    have hle : (nums f).length + (nums (newN t f y)).length ≤ LIM := by rw [nums_len, nums_len]; unfold LIM; omega
    have en : nums ((thingsN (rowN t y)).filter fun z => !decide (z ∈ f)) = nums (newN t f y) := rfl
    simp only [Rv.fl, extR, hr, en, hle, decide_true, Bool.and_self, if_true]
    unfold stG put nums
    simp⟩
  have au : St G C (.aug 3 .add (.con (.int 1))) (stG t x (f ++ newN t f y) p) (.nx (stG t x (f ++ newN t f y) (p + 1))) := ⟨by
    have hr : rd (stG t x (f ++ newN t f y) p) 3 = some (.int p, .sh) := rfl
    rw [ex1]
    simp [hr, conE, Rv.fl, augOk, o2, addT]
    simp [stG, put]⟩
  exact Sts.cons ex (Sts.cons au Sts.nil)
theorem led_go (hT : Tie t) (hC : ThingsC C) {x : Nat} : ∀ (k p : Nat) (f : List Nat), LInv t x f p → 8 ≤ k + p → ∃ f', whGo (fun s => ev G C (.op2 .lt (.var 3) (.op1 .len (.brw 2))) s) (fun s => exs G C ledB s) k (stG t x f p) = .nx (stG t x f' f'.length) ∧ LInv t x f' f'.length
  | 0, p, f, h, hk => by
    have := h.six hT
    have := h.le
    omega
  | k + 1, p, f, h, hk => by
    have h6 := h.six hT
    have hle := h.le
    have et : Ev G C (.op2 .lt (.var 3) (.op1 .len (.brw 2))) (stG t x f p) (.bl (decide ((p : Int) < (f.length : Nat)))) true (stG t x f p) :=
      Ev.two rfl rfl (Ev.var rfl Lf.int) (Ev.oneb (.inl rfl) V1.lenNl) V2.lt
    rw [whGo, et.h]
    by_cases hp : p < f.length
    · have e : decide ((p : Int) < (f.length : Nat)) = true := by rw [decide_eq_true_eq]; omega
      rw [e]
      simp only [Rv.fl, T.tr]
      have hy : f[p]? = some f[p] := List.getElem?_eq_getElem hp
      have hre := h.re f[p] (List.getElem_mem hp)
      rw [(led_turn (C := C) hT hC (x := x) hy (hre.lt hT).2 h6).h]
      exact led_go hT hC k (p + 1) _ (h.step hT hy) (by omega)
    · have e : decide ((p : Int) < (f.length : Nat)) = false := by rw [decide_eq_false_iff_not]; omega
      have ep : p = f.length := by omega
      rw [e]
      simp only [Rv.fl, T.tr]
      subst ep
      exact ⟨f, rfl, h⟩
theorem wf_8 : ∃ k, WF = k + 8 := by
  have h : ∀ n : Nat, 8 ≤ n → ∃ k, n = k + 8 := fun n h => ⟨n - 8, by omega⟩
  exact h _ (by decide +kernel)
theorem led_to_run (hT : Tie t) (hC : ThingsC C) {x : Nat} (hx : x < t.length) : ∃ l, runFn G C B_led_to [tieT t, .int x] = .ok (.lst (nums l)) true [] ∧ ∀ y, y ∈ l ↔ Reach t x y := by
  obtain ⟨k, hk⟩ := wf_8
  obtain ⟨f, q1, q2⟩ := led_go (C := C) hT hC (x := x) (k + 8) 0 _ (LInv.start hT) (by omega)
  obtain ⟨l, s1, s2⟩ := sorNums f (by have := q2.six hT; omega)
  refine ⟨l, ?_, fun y => (s2 y).trans (q2.done y)⟩
  have e1 : Ev G C (.call f_things_in [(.op2 .idx (.var 0) (.var 1))]) [some (tieT t, .sh), some (.int x, .sh), none, none, none] (.lst (nums (thingsN (rowN t x)))) true [some (tieT t, .sh), some (.int x, .sh), none, none, none] :=
    Ev.call1 (F := B_things_in) rfl rfl rfl (Ev.two rfl rfl (Ev.var rfl lfT) (Ev.var rfl Lf.int) (idT hx)) (hC _)
  have wh : St G C (.wh (.op2 .lt (.var 3) (.op1 .len (.brw 2))) ledB) (stG t x (thingsN (rowN t x)) 0) (.nx (stG t x f f.length)) := ⟨by rw [ex1, hk]; exact q1⟩
  have so : V1 .sorted (.lst (nums f)) (.lst (nums l)) := ⟨by simp [o1, s1], by
    show (T.lst (nums l)).inner = true
    rw [T.inner]; exact nums_lf l⟩
  apply run_s (F := B_led_to) rfl (s0 := [some (tieT t, .sh), some (.int x, .sh), none, none, none]) rfl
  · exact Sts.cons (St.own e1) (Sts.cons (St.set Ev.con) (Sts.cons wh (Sts.rt (St.ret (Ev.oneb (.inl rfl) so)))))
  · rfl
end

local macro_rules | `(tactic| walk_at "lfgo") => `(tactic| first | exact Lf.int | exact Lf.bl | exact Lf.nums | exact lfT | exact Lf.non | exact Lf.str | exact Lf.wd (by first | decide | assumption) | assumption)
local macro_rules | `(tactic| walk_at "trT") => `(tactic| first | exact Tr.blT | (apply Tr.of; decide) | (apply Tr.of; rfl) | (apply Tr.of; simp only [*]; done) | (apply Tr.of; simp only [*]; rfl) | fail)
local macro_rules | `(tactic| walk_at "trF") => `(tactic| first | exact Tr.blF | (apply Tr.of; decide) | (apply Tr.of; rfl) | (apply Tr.of; simp only [*]; done) | (apply Tr.of; simp only [*]; rfl) | fail)
local macro_rules | `(tactic| walk_at "vgo") => `(tactic| first | exact V2.eqN | exact V2.eqI | exact V2.neN | exact V2.eqB | exact V2.neB | exact idT (by assumption) | exact ix0 | exact ix1 | exact ix2 | exact ixL rfl | exact V1.neg1 | exact V2.lt | exact V2.le | exact V2.gt | exact V2.ge | exact V1.lenN | exact V1.lenNl | exact V1.isTup | exact V1.isInt | exact V1.isBoolI | exact V1.isBoolB | exact V1.isNn | exact V1.isNt | exact V1.notNn | exact V1.notNt | exact V1.isStr (by first | decide | assumption) | exact Mm.nm | exact Mm.nmt | exact q0 (by decide) | exact q1 (by decide) | exact q2 (by decide) | exact q3 (by decide) | exact q4 (by decide) | exact q5 (by decide) | exact q6 (by decide) | exact q7 (by decide) | exact q8 (by decide) | exact q9 (by decide) | exact q10 (by decide) | exact q11 (by decide) | exact q12 (by decide) | exact q13 (by decide) | exact q14 (by decide) | exact q15 (by decide) | exact q16 (by decide) | exact q17 (by decide) | exact r_tup_asym_anti (by decide) | exact r_tup_total_conn (by decide) | exact r_tup_refl_irr_serial_inv (by decide) | exact r_lst_refl_irr_serial_inv (by decide) | exact r_lst_trans_neg_eucl_func (by decide) | exact r_lst_refl_irr (by decide) | exact r_lst_sym_asym (by decide) | exact r_lst_anti_conn (by decide) | exact r_lst_total_full (by decide) | exact r_lst_ident_one (by decide) | apply V2.mem | apply V2.nmem | fail)
local macro_rules | `(tactic| walk_at "ev1") => `(tactic| first | exact Ev.con | assumption | exact Ev.var rfl (by walk_at "lfgo") | exact Ev.varL rfl | apply Ev.and | apply Ev.or | apply Ev.chain | apply Ev.not rfl | apply Ev.call1 rfl rfl rfl | apply Ev.call2 rfl rfl rfl rfl | apply Ev.call3 rfl rfl rfl rfl rfl | apply Ev.call4 rfl rfl rfl rfl rfl rfl | apply Ev.call5 rfl rfl rfl rfl rfl rfl rfl | apply Ev.call0 rfl rfl | walk_at "ite" | apply Ev.one rfl | apply Ev.two rfl rfl | exact Ev.tup0 | exact Ev.lst0 | apply Ev.tup1 | apply Ev.tup2 | apply Ev.tup4 | apply Ev.lst2 | apply Ev.lst3 | apply Ev.lst4 | walk_at "vgo" | apply_assumption | fail)
local macro_rules | `(tactic| walk_at "evgo") => `(tactic| repeat' (walk_at "ev1"))
local macro_rules | `(tactic| walk_at "ite") => `(tactic| first | (apply Ev.iteT; (· walk_at "evgo"); (· walk_at "trT")) | (apply Ev.iteF; (· walk_at "evgo"); (· walk_at "trF")) | fail)
local macro_rules | `(tactic| walk_at "st1") => `(tactic| first | exact Sts.nil | (apply Sts.rt; apply St.ret; walk_at "evgo") | (apply Sts.cons; (· (apply St.skip; (· walk_at "evgo"); (· walk_at "trF")))) | (apply Sts.rt; apply St.iffT; (· walk_at "evgo"); (· walk_at "trT")) | (apply Sts.cons; (· (apply St.set; (· walk_at "evgo")))) | (apply Sts.cons; (· (apply St.par2; (· walk_at "evgo"); (· walk_at "evgo"); (· rfl)))) | (apply Sts.cons; (· (apply St.unp; (· walk_at "evgo"); (· rfl)))) | fail)
local macro_rules | `(tactic| walk_at "stgo") => `(tactic| repeat' (walk_at "st1"))
/-! ### _law_ahead -/
def stepA (t f : List Nat) : List Nat := (List.range t.length).filter fun y => decide (y ∈ f) || f.any fun z => R t z y
theorem stepA_mem {t f : List Nat} (hT : Tie t) (hf : ∀ a ∈ f, a < t.length) {y : Nat} : y ∈ stepA t f ↔ y ∈ f ∨ ∃ z ∈ f, R t z y = true := by
  unfold stepA
  rw [List.mem_filter, List.mem_range, Bool.or_eq_true, decide_eq_true_eq, List.any_eq_true]
  refine ⟨fun h => h.2, fun h => ⟨?_, h⟩⟩
  rcases h with h | ⟨z, _, h⟩
  · exact hf y h
  · exact (hT.r_lt h).2
theorem nd_len : ∀ {xs ys : List Nat}, xs.Nodup → (∀ k ∈ xs, k ∈ ys) → xs.length ≤ ys.length
  | [], ys, _, _ => Nat.zero_le _
  | x :: xs, ys, h, hs => by
    obtain ⟨h1, h2⟩ := List.nodup_cons.mp h
    have hx : x ∈ ys := hs x (by simp)
    have q := nd_len (xs := xs) (ys := ys.erase x) h2 fun k hk => by
      have e : k ≠ x := fun e => by subst e; exact h1 hk
      exact (List.mem_erase_of_ne e).mpr (hs k (by simp [hk]))
    rw [List.length_erase_of_mem hx] at q
    have : 0 < ys.length := List.length_pos_of_mem hx
    rw [List.length_cons]
    omega
structure AInv (t : List Nat) (x : Nat) (f : List Nat) : Prop where
  nd : f.Nodup
  lt : ∀ a ∈ f, a < t.length
  re : ∀ y ∈ f, Reach t x y
  on : ∀ y, R t x y = true → y ∈ f
def ClA (t f : List Nat) : Prop := ∀ y ∈ f, ∀ z, R t y z = true → z ∈ f
theorem AInv.step {t f : List Nat} (hT : Tie t) {x : Nat} (h : AInv t x f) : AInv t x (stepA t f) ∧ (ClA t f → ClA t (stepA t f)) ∧ (ClA t f ∨ f.length < (stepA t f).length) := by
  have m : ∀ y, y ∈ stepA t f ↔ y ∈ f ∨ ∃ z ∈ f, R t z y = true := fun y => stepA_mem hT h.lt
  refine ⟨⟨List.Pairwise.filter _ (List.nodup_range ..), fun a ha => List.mem_range.mp (List.mem_filter.mp ha).1, fun y hy => ?_, fun y hy => (m y).mpr (.inl (h.on y hy))⟩, fun hc y hy z hz => ?_, ?_⟩
  · rcases (m y).mp hy with q | ⟨z, hz, q⟩
    · exact h.re y q
    · exact .more (h.re z hz) q
  · rcases (m y).mp hy with q | ⟨w, hw, q⟩
    · exact (m z).mpr (.inl (hc y q z hz))
    · exact (m z).mpr (.inl (hc y (hc w hw y q) z hz))
  · by_cases hc : ClA t f
    · exact .inl hc
    · right
      have : ∃ y ∈ f, ∃ z, R t y z = true ∧ z ∉ f := Classical.byContradiction fun q => hc fun y hy z hz => Classical.byContradiction fun e => q ⟨y, hy, z, hz, e⟩
      obtain ⟨y, hy, z, hz, hn⟩ := this
      have q := nd_len (xs := z :: f) (ys := stepA t f) (List.nodup_cons.mpr ⟨hn, h.nd⟩) fun k hk => by
        rcases List.mem_cons.mp hk with e | e
        · rw [e]; exact (m z).mpr (.inr ⟨y, hy, hz⟩)
        · exact (m k).mpr (.inl e)
      rw [List.length_cons] at q
      omega
theorem AInv.done {t f : List Nat} {x : Nat} (h : AInv t x f) (hc : ClA t f) (y : Nat) : y ∈ f ↔ Reach t x y := by
  refine ⟨h.re y, fun q => ?_⟩
  induction q with
  | one q => exact h.on _ q
  | more _ q ih => exact hc _ ih _ q
theorem AInv.full {t f : List Nat} (hT : Tie t) {x : Nat} (h : AInv t x f) (hn : t.length ≤ f.length) : ClA t f := by
  intro y hy z hz
  refine Classical.byContradiction fun hn' => ?_
  have q := nodup_le t.length (z :: f) (List.nodup_cons.mpr ⟨hn', h.nd⟩) fun a ha => by
    rcases List.mem_cons.mp ha with e | e
    · rw [e]; exact (hT.r_lt hz).2
    · exact h.lt a e
  rw [List.length_cons] at q
  omega
section
variable {C : Nat → List T → CR} {t : List Nat}
def stA (t : List Nat) (x : Nat) (f : List Nat) (z : Option (T × Ow)) : Sl := [some (tieT t, .sh), some (.int x, .sh), some (.lst (nums f), .sh), z, none, none]
def ahB : List S := [.set 2 (.lc (.nm 4) (.op1 .rng (.op1 .len (.var 0))) [(.or (.op2 .mem (.var 4) (.var 2)) (.op1 .any (.lc (.nm 5) (.var 2) [] (.call f_law_has [(.var 0), (.var 5), (.var 4)]) [5])))] (.var 4) [4])]
theorem rngLen (hT : Tie t) {s : Sl} (h : rd s 0 = some (tieT t, .sh)) : Ev G C (.op1 .rng (.op1 .len (.var 0))) s (.lst (nums (List.range t.length))) true s :=
  Ev.one rfl (Ev.one rfl (Ev.var h lfT) (V1.lenN (l := t))) (V1.rng (tie_six hT))
theorem ah_turn (hT : Tie t) (hC : LHasC C t) {x : Nat} {f : List Nat} {z : Option (T × Ow)} (hf : ∀ a ∈ f, a < t.length) (hl : f.length ≤ 6) (hz : z = none ∨ ∃ y, z = some (y, .sh)) : Sts G C ahB (stA t x f z) (.nx (stA t x (stepA t f) z)) := by
  have q := ev_filt (G := G) (C := C) (t := .nm 4) (it := .op1 .rng (.op1 .len (.var 0))) (c := (.or (.op2 .mem (.var 4) (.var 2)) (.op1 .any (.lc (.nm 5) (.var 2) [] (.call f_law_has [(.var 0), (.var 5), (.var 4)]) [5])))) (elt := .var 4) (own := [4]) (p := pN fun y => decide (y ∈ f) || f.any fun z => R t z y) (s := stA t x f z) (ag_of rfl (rngLen (C := C) hT rfl).h) rfl rfl (fun w hw => by
    obtain ⟨y, hy, rfl⟩ := List.mem_map.mp hw
    refine ⟨[some (tieT t, .sh), some (.int x, .sh), some (.lst (nums f), .sh), z, some (.int y, .sh), none], rfl, Ev.h ?_, Ev.h (Ev.var rfl Lf.int), rfl⟩
    refine Ev.or (Ev.two rfl rfl (Ev.var rfl Lf.int) (Ev.varL rfl) (V2.mem Mm.nm)) ?_
    have qa := ev_any (G := G) (C := C) (t := .nm 5) (it := .var 2) (elt := .call f_law_has [(.var 0), (.var 5), (.var 4)]) (own := [5]) (p := pN fun z => R t z y) (xs := nums f) (s := [some (tieT t, .sh), some (.int x, .sh), some (.lst (nums f), .sh), z, some (.int y, .sh), none]) (ag_of rfl (Ev.varL (C := C) (G := G) (l := nums f) rfl).h) rfl rfl (fun v hv => by
      obtain ⟨k, hk, rfl⟩ := List.mem_map.mp hv
      refine ⟨[some (tieT t, .sh), some (.int x, .sh), some (.lst (nums f), .sh), z, some (.int y, .sh), some (.int k, .sh)], rfl, Ev.h ?_, rfl⟩
      exact Ev.call3 (F := B_law_has) rfl rfl rfl rfl rfl (Ev.var rfl lfT) (Ev.var rfl Lf.int) (Ev.var rfl Lf.int) (hC k y (hf k hk))) (by rw [nums_len]; unfold LIM; omega)
    rw [nums_anyP] at qa
    exact ⟨qa⟩) (by rw [nums_len, List.length_range]; exact Nat.le_trans hT.six (by simp [LIM]))
  rw [nums_filter] at q
  exact Sts.cons (St.set ⟨q⟩) Sts.nil
theorem ah_go (hT : Tie t) (hC : LHasC C t) {x : Nat} : ∀ (ts : List T) (f : List Nat) (z : Option (T × Ow)), AInv t x f → ∃ f' z', forGo (.nm 3) none (fun s => exs G C ahB s) ts (stA t x f z) = .nx (stA t x f' z') ∧ AInv t x f' ∧ (ClA t f' ∨ f.length + ts.length ≤ f'.length) ∧ (ClA t f → ClA t f')
  | [], f, z, h => ⟨f, z, rfl, h, .inr (by simp), id⟩
  | y :: ts, f, z, h => by
    obtain ⟨i1, i2, i3⟩ := h.step hT
    have hl : f.length ≤ 6 := by
      have := nodup_le t.length f h.nd h.lt
      have := hT.six
      omega
    obtain ⟨f', z', q1, q2, q3, q4⟩ := ah_go hT hC (x := x) ts (stepA t f) (some (y, .sh)) i1
    refine ⟨f', z', ?_, q2, ?_, fun hc => q4 (i2 hc)⟩
    · rw [forGo]
      show (match exs G C ahB (stA t x f (some (y, .sh))) with | .nx s2 => _ | r => r) = _
      rw [(ah_turn (C := C) (x := x) hT hC h.lt hl (.inr ⟨y, rfl⟩)).h]
      exact q1
    · rcases i3 with hc | hlt
      · exact .inl (q4 (i2 hc))
      · rcases q3 with hc | hle
        · exact .inl hc
        · exact .inr (by rw [List.length_cons]; omega)
theorem law_ahead_run (hT : Tie t) (hC : LHasC C t) {x : Nat} (hx : x < t.length) : ∃ l, runFn G C B_law_ahead [tieT t, .int x] = .ok (.lst (nums l)) false [] ∧ ∀ y, y ∈ l ↔ Reach t x y := by
  have q0 := ev_filt (G := G) (C := C) (t := .nm 4) (it := .op1 .rng (.op1 .len (.var 0))) (c := .call f_law_has [(.var 0), (.var 1), (.var 4)]) (elt := .var 4) (own := [4]) (p := pN fun y => R t x y) (s := [some (tieT t, .sh), some (.int x, .sh), none, none, none, none]) (ag_of rfl (rngLen (C := C) hT rfl).h) rfl rfl (fun w hw => by
    obtain ⟨y, hy, rfl⟩ := List.mem_map.mp hw
    refine ⟨[some (tieT t, .sh), some (.int x, .sh), none, none, some (.int y, .sh), none], rfl, Ev.h ?_, Ev.h (Ev.var rfl Lf.int), rfl⟩
    exact Ev.call3 (F := B_law_has) rfl rfl rfl rfl rfl (Ev.var rfl lfT) (Ev.var rfl Lf.int) (Ev.var rfl Lf.int) (hC x y hx)) (by rw [nums_len, List.length_range]; exact Nat.le_trans hT.six (by simp [LIM]))
  rw [nums_filter] at q0
  have i0 : AInv t x ((List.range t.length).filter fun y => R t x y) := ⟨List.Pairwise.filter _ (List.nodup_range ..), fun a ha => List.mem_range.mp (List.mem_filter.mp ha).1, fun y hy => .one (List.mem_filter.mp hy).2, fun y hy => List.mem_filter.mpr ⟨List.mem_range.mpr (hT.r_lt hy).2, hy⟩⟩
  obtain ⟨f, z, q1, q2, q3, _⟩ := ah_go (C := C) hT hC (x := x) (nums (List.range t.length)) _ none i0
  have hc : ClA t f := by
    rcases q3 with h | h
    · exact h
    · rw [nums_len, List.length_range] at h
      exact q2.full hT (by omega)
  refine ⟨f, ?_, q2.done hc⟩
  have s1 : St G C (.set 2 (.lc (.nm 4) (.op1 .rng (.op1 .len (.var 0))) [(.call f_law_has [(.var 0), (.var 1), (.var 4)])] (.var 4) [4])) [some (tieT t, .sh), some (.int x, .sh), none, none, none, none] (.nx (stA t x ((List.range t.length).filter fun y => R t x y) none)) := St.set ⟨q0⟩
  have s2 : St G C (.fr (.nm 3) (.op1 .rng (.op1 .len (.var 0))) ahB) (stA t x ((List.range t.length).filter fun y => R t x y) none) (.nx (stA t x f z)) := ⟨x_fr1 rfl (rngLen (C := C) hT rfl).h rfl q1⟩
  apply run_s (F := B_law_ahead) rfl (s0 := [some (tieT t, .sh), some (.int x, .sh), none, none, none, none]) rfl
  · exact Sts.cons s1 (Sts.cons s2 (Sts.rt (St.ret (Ev.varL rfl))))
  · rfl
end
/-! ### way_between -/
/-- each tied to the next one -/
def Ch (t : List Nat) : List Nat → Prop
  | x :: y :: r => R t x y = true ∧ Ch t (y :: r)
  | _ => True
theorem Ch.snoc {t : List Nat} : ∀ {w : List Nat} {z y : Nat}, Ch t w → w.getLast? = some z → R t z y = true → Ch t (w ++ [y])
  | [], z, y, _, h, _ => by simp at h
  | [a], z, y, _, h, hr => by
    simp at h
    subst h
    exact ⟨hr, trivial⟩
  | a :: b :: r, z, y, h, hl, hr => ⟨h.1, Ch.snoc (w := b :: r) h.2 (by simpa using hl) hr⟩
/-- a walk of the layer -/
structure Wlk (t : List Nat) (a b : Nat) (S w : List Nat) : Prop where
  ex : ∃ u, w = a :: u ∧ u.Nodup ∧ ∀ z ∈ u, z ∈ S ∧ z ≠ b
  ch : Ch t w
theorem Wlk.mono {t : List Nat} {a b : Nat} {S S' w : List Nat} (h : Wlk t a b S w) (hs : ∀ z ∈ S, z ∈ S') : Wlk t a b S' w := by
  obtain ⟨u, h1, h2, h3⟩ := h.ex
  exact ⟨⟨u, h1, h2, fun z hz => ⟨hs z (h3 z hz).1, (h3 z hz).2⟩⟩, h.ch⟩
/-- what is told: from a to b, with unlike things between -/
structure Way (t : List Nat) (a b : Nat) (r : List Nat) : Prop where
  ex : ∃ u, r = a :: (u ++ [b]) ∧ u.Nodup ∧ b ∉ u
  ch : Ch t r
theorem Wlk.way {t : List Nat} {a b z : Nat} {S w : List Nat} (h : Wlk t a b S w) (hl : w.getLast? = some z) (hr : R t z b = true) : Way t a b (w ++ [b]) := by
  obtain ⟨u, h1, h2, h3⟩ := h.ex
  exact ⟨⟨u, by rw [h1]; rfl, h2, fun q => (h3 b q).2 rfl⟩, h.ch.snoc hl hr⟩
theorem Wlk.next {t : List Nat} {a b z y : Nat} {S w : List Nat} (h : Wlk t a b S w) (hl : w.getLast? = some z) (hr : R t z y = true) (hb : y ≠ b) (hS : y ∉ S) : Wlk t a b (S ++ [y]) (w ++ [y]) := by
  obtain ⟨u, h1, h2, h3⟩ := h.ex
  refine ⟨⟨u ++ [y], by rw [h1]; rfl, ?_, fun x hx => ?_⟩, h.ch.snoc hl hr⟩
  · rw [List.nodup_append]
    refine ⟨h2, by simp, fun c hc d hd e => ?_⟩
    rw [List.mem_singleton] at hd
    subst hd
    subst e
    exact hS (h3 c hc).1
  · rcases List.mem_append.mp hx with q | q
    · exact ⟨List.mem_append_left _ (h3 x q).1, (h3 x q).2⟩
    · rw [List.mem_singleton.mp q]; exact ⟨by simp, hb⟩
theorem Wlk.len {t : List Nat} {a b : Nat} {S w : List Nat} (h : Wlk t a b S w) : w.length ≤ S.length + 1 := by
  obtain ⟨u, h1, h2, h3⟩ := h.ex
  have := nd_len (xs := u) (ys := S) h2 fun k hk => (h3 k hk).1
  rw [h1, List.length_cons]
  omega
section
variable {C : Nat → List T → CR} {t : List Nat}
theorem St.app' {s : Sl} {i : Nat} {e : E} {xs : List T} {x : T} (hr : rd s i = some (.lst xs, .ow)) (h : Ev G C e s x true s) (hl : xs.length < LIM) : St G C (.app i e) s (.nx (put s i (.lst (xs ++ [x])) .ow)) := ⟨by
  have hls : isLs s i = true := by unfold isLs; rw [hr]
  rw [ex1, if_pos hls, h.h]
  simp only [Rv.fl, appR, hr, hl, decide_true, Bool.and_self, if_true]⟩
def stB (t : List Nat) (a b : Nat) (L : List (List Nat)) (S : List Nat) (g w y : Option (T × Ow)) : Sl := [some (tieT t, .sh), some (.int a, .sh), some (.int b, .sh), some (.lst (rowsT L), .sh), some (.lst (nums S), .ow), g, w, y]
def grT (Gr : List (List Nat)) : Option (T × Ow) := some (.lst (rowsT Gr), .ow)
def wkT (w : List Nat) : Option (T × Ow) := some (.tup (nums w), .sh)
def wayB : List S := [.iff (.op2 .eq (.var 7) (.var 2)) [.ret (.op2 .add (.var 6) (.tup [(.var 7)]))] [], .iff (.op2 .nmem (.var 7) (.brw 4)) [.app 4 (.var 7), .app 5 (.op2 .add (.var 6) (.tup [(.var 7)]))] []]
/-- what a turn leaves -/
structure WOut (t : List Nat) (a b : Nat) (S S' : List Nat) (Gr Gr' : List (List Nat)) : Prop where
  ss : ∀ s ∈ S, s ∈ S'
  gg : ∀ g ∈ Gr, g ∈ Gr'
  nw : ∀ s ∈ S', s ∈ S ∨ ∃ g ∈ Gr', g.getLast? = some s
  wl : ∀ g ∈ Gr', Wlk t a b S' g
  nd : S'.Nodup
  lt : ∀ s ∈ S', s < t.length
  ln : Gr'.length + S.length = Gr.length + S'.length
theorem WOut.refl {a b : Nat} {S : List Nat} {Gr : List (List Nat)} (hw : ∀ g ∈ Gr, Wlk t a b S g) (nd : S.Nodup) (lt : ∀ s ∈ S, s < t.length) : WOut t a b S S Gr Gr := ⟨fun _ h => h, fun _ h => h, fun _ h => .inl h, hw, nd, lt, rfl⟩
theorem WOut.trans {a b : Nat} {S S' S2 : List Nat} {Gr Gr' G2 : List (List Nat)} (h : WOut t a b S S' Gr Gr') (k : WOut t a b S' S2 Gr' G2) : WOut t a b S S2 Gr G2 :=
  ⟨fun s hs => k.ss s (h.ss s hs), fun g hg => k.gg g (h.gg g hg), fun s hs => by
    rcases k.nw s hs with q | q
    · rcases h.nw s q with q | ⟨g, hg, e⟩
      · exact .inl q
      · exact .inr ⟨g, k.gg g hg, e⟩
    · exact .inr q, k.wl, k.nd, k.lt, by have := h.ln; have := k.ln; omega⟩
theorem way_in (hT : Tie t) {a b z : Nat} {L : List (List Nat)} {w : List Nat} (hl : w.getLast? = some z) : ∀ (ys : List Nat) (S : List Nat) (Gr : List (List Nat)) (y0 : Option (T × Ow)), (∀ y ∈ ys, R t z y = true) → Wlk t a b S w → (∀ g ∈ Gr, Wlk t a b S g) → S.Nodup → (∀ s ∈ S, s < t.length) → Gr.length ≤ S.length →
    (∃ st, forGo (.nm 7) none (fun s => exs G C wayB s) (nums ys) (stB t a b L S (grT Gr) (wkT w) y0) = .rt (.tup (nums (w ++ [b]))) true st ∧ Way t a b (w ++ [b])) ∨
    ∃ S' Gr' y', forGo (.nm 7) none (fun s => exs G C wayB s) (nums ys) (stB t a b L S (grT Gr) (wkT w) y0) = .nx (stB t a b L S' (grT Gr') (wkT w) y') ∧ WOut t a b S S' Gr Gr' ∧ (∀ y ∈ ys, y ∈ S' ∧ y ≠ b)
  | [], S, Gr, y0, _, _, hg, nd, lt, _ => .inr ⟨S, Gr, y0, rfl, WOut.refl hg nd lt, by simp⟩
  | y :: ys, S, Gr, y0, hr, hw, hg, nd, lt, hle => by
    have hS6 : S.length ≤ 6 := by
      have := nodup_le t.length S nd lt
      have := hT.six
      omega
    have hwl := hw.len
    have ad : V2 .add (.tup (nums w)) (.tup [.int y]) (.tup (nums (w ++ [y]))) := add_one (by omega)
    have hry := hr y (by simp)
    have ef : ∀ r, forGo (.nm 7) none (fun s => exs G C wayB s) (nums (y :: ys)) (stB t a b L S (grT Gr) (wkT w) y0) = r ↔ (match exs G C wayB (stB t a b L S (grT Gr) (wkT w) (some (.int y, .sh))) with | .nx s2 => forGo (.nm 7) none (fun s => exs G C wayB s) (nums ys) s2 | r => r) = r := fun r => by
      show forGo _ none _ (.int y :: nums ys) _ = r ↔ _
      rw [forGo]
      rfl
    have c1 : Ev G C (.op2 .eq (.var 7) (.var 2)) (stB t a b L S (grT Gr) (wkT w) (some (.int y, .sh))) (.bl (decide (y = b))) true (stB t a b L S (grT Gr) (wkT w) (some (.int y, .sh))) := Ev.two rfl rfl (Ev.var rfl Lf.int) (Ev.var rfl Lf.int) V2.eqN
    have c2 : Ev G C (.op2 .nmem (.var 7) (.brw 4)) (stB t a b L S (grT Gr) (wkT w) (some (.int y, .sh))) (.bl (!decide (y ∈ S))) true (stB t a b L S (grT Gr) (wkT w) (some (.int y, .sh))) := Ev.twob rfl (Ev.var rfl Lf.int) (.inl rfl) (V2.nmem Mm.nm)
    have e6 : Ev G C (.op2 .add (.var 6) (.tup [(.var 7)])) (stB t a b L S (grT Gr) (wkT w) (some (.int y, .sh))) (.tup (nums (w ++ [y]))) true (stB t a b L S (grT Gr) (wkT w) (some (.int y, .sh))) := Ev.two rfl rfl (Ev.var rfl Lf.nums) (Ev.tup1 (Ev.var rfl Lf.int)) ad
    by_cases hyb : y = b
    · subst hyb
      left
      refine ⟨stB t a y L S (grT Gr) (wkT w) (some (.int y, .sh)), ?_, hw.way hl hry⟩
      rw [ef]
      have hs : Sts G C wayB (stB t a y L S (grT Gr) (wkT w) (some (.int y, .sh))) (.rt (.tup (nums (w ++ [y]))) true (stB t a y L S (grT Gr) (wkT w) (some (.int y, .sh)))) :=
        Sts.rt (St.iffT c1 (Tr.of (by simp)) (Sts.rt (St.ret e6)))
      rw [hs.h]
    · have t1 : Tr (.bl (decide (y = b))) false := Tr.of (by simp [hyb])
      by_cases hyS : y ∈ S
      · have hs : Sts G C wayB (stB t a b L S (grT Gr) (wkT w) (some (.int y, .sh))) (.nx (stB t a b L S (grT Gr) (wkT w) (some (.int y, .sh)))) :=
          Sts.cons (St.skip c1 t1) (Sts.cons (St.skip c2 (Tr.of (by simp [hyS]))) Sts.nil)
        rcases way_in hT hl ys S Gr (some (.int y, .sh)) (fun x hx => hr x (by simp [hx])) hw hg nd lt hle with ⟨st, q1, q2⟩ | ⟨S', Gr', y', q1, q2, q3⟩
        · left
          refine ⟨st, ?_, q2⟩
          rw [ef, hs.h]
          exact q1
        · right
          refine ⟨S', Gr', y', ?_, q2, fun x hx => ?_⟩
          · rw [ef, hs.h]
            exact q1
          · rcases List.mem_cons.mp hx with e | hx
            · subst e; exact ⟨q2.ss x hyS, hyb⟩
            · exact q3 x hx
      · have hnd : (S ++ [y]).Nodup := by
          rw [List.nodup_append]
          refine ⟨nd, by simp, fun c hc d hd e => ?_⟩
          rw [List.mem_singleton] at hd
          subst hd; subst e
          exact hyS hc
        have hlt : ∀ s ∈ S ++ [y], s < t.length := fun s hs => by
          rcases List.mem_append.mp hs with q | q
          · exact lt s q
          · rw [List.mem_singleton.mp q]; exact (hT.r_lt hry).2
        have sub : ∀ s ∈ S, s ∈ S ++ [y] := fun s hs => List.mem_append_left _ hs
        have hg' : ∀ g ∈ Gr ++ [w ++ [y]], Wlk t a b (S ++ [y]) g := fun g hg2 => by
          rcases List.mem_append.mp hg2 with q | q
          · exact (hg g q).mono sub
          · rw [List.mem_singleton.mp q]; exact hw.next hl hry hyb hyS
        have a1 : St G C (.app 4 (.var 7)) (stB t a b L S (grT Gr) (wkT w) (some (.int y, .sh))) (.nx (stB t a b L (S ++ [y]) (grT Gr) (wkT w) (some (.int y, .sh)))) := by
          have q := St.app' (C := C) (s := stB t a b L S (grT Gr) (wkT w) (some (.int y, .sh))) (i := 4) (e := .var 7) (xs := nums S) (x := .int y) rfl (Ev.var rfl Lf.int) (by rw [nums_len]; unfold LIM; omega)
          have e : put (stB t a b L S (grT Gr) (wkT w) (some (.int y, .sh))) 4 (.lst (nums S ++ [.int y])) .ow = stB t a b L (S ++ [y]) (grT Gr) (wkT w) (some (.int y, .sh)) := by
            simp [stB, put, nums]
          rw [e] at q
          exact q
        have e6' : Ev G C (.op2 .add (.var 6) (.tup [(.var 7)])) (stB t a b L (S ++ [y]) (grT Gr) (wkT w) (some (.int y, .sh))) (.tup (nums (w ++ [y]))) true (stB t a b L (S ++ [y]) (grT Gr) (wkT w) (some (.int y, .sh))) := Ev.two rfl rfl (Ev.var rfl Lf.nums) (Ev.tup1 (Ev.var rfl Lf.int)) ad
        have a2 : St G C (.app 5 (.op2 .add (.var 6) (.tup [(.var 7)]))) (stB t a b L (S ++ [y]) (grT Gr) (wkT w) (some (.int y, .sh))) (.nx (stB t a b L (S ++ [y]) (grT (Gr ++ [w ++ [y]])) (wkT w) (some (.int y, .sh)))) := by
          have q := St.app' (C := C) (s := stB t a b L (S ++ [y]) (grT Gr) (wkT w) (some (.int y, .sh))) (i := 5) (xs := rowsT Gr) rfl e6' (by rw [rowsT_len]; unfold LIM; omega)
          have e : put (stB t a b L (S ++ [y]) (grT Gr) (wkT w) (some (.int y, .sh))) 5 (.lst (rowsT Gr ++ [.tup (nums (w ++ [y]))])) .ow = stB t a b L (S ++ [y]) (grT (Gr ++ [w ++ [y]])) (wkT w) (some (.int y, .sh)) := by
            simp [stB, put, rowsT, grT]
          rw [e] at q
          exact q
        have hs : Sts G C wayB (stB t a b L S (grT Gr) (wkT w) (some (.int y, .sh))) (.nx (stB t a b L (S ++ [y]) (grT (Gr ++ [w ++ [y]])) (wkT w) (some (.int y, .sh)))) :=
          Sts.cons (St.skip c1 t1) (Sts.cons (St.iffT c2 (Tr.of (by simp [hyS])) (Sts.cons a1 (Sts.cons a2 Sts.nil))) Sts.nil)
        have w1 : WOut t a b S (S ++ [y]) Gr (Gr ++ [w ++ [y]]) := ⟨sub, fun g q => List.mem_append_left _ q, fun s q => by
          rcases List.mem_append.mp q with q | q
          · exact .inl q
          · exact .inr ⟨w ++ [y], by simp, by rw [List.mem_singleton.mp q]; simp⟩, hg', hnd, hlt, by simp; omega⟩
        rcases way_in hT hl ys (S ++ [y]) (Gr ++ [w ++ [y]]) (some (.int y, .sh)) (fun x hx => hr x (by simp [hx])) (hw.mono sub) hg' hnd hlt (by simp; omega) with ⟨st, q1, q2⟩ | ⟨S', Gr', y', q1, q2, q3⟩
        · left
          refine ⟨st, ?_, q2⟩
          rw [ef, hs.h]
          exact q1
        · right
          refine ⟨S', Gr', y', ?_, w1.trans q2, fun x hx => ?_⟩
          · rw [ef, hs.h]
            exact q1
          · rcases List.mem_cons.mp hx with e | hx
            · subst e; exact ⟨q2.ss x (by simp), hyb⟩
            · exact q3 x hx
/-- all that a thing is tied to is there, and is not the goal -/
def Exp (t : List Nat) (b : Nat) (S : List Nat) (z : Nat) : Prop := ∀ y, R t z y = true → y ∈ S ∧ y ≠ b
def wayM : List S := [.fr (.nm 7) (.call f_things_in [(.op2 .idx (.var 0) (.op2 .idx (.var 6) (.op1 .neg (.con (.int 1)))))]) wayB]
theorem way_mid (hT : Tie t) (hC : ThingsC C) {a b : Nat} (ha : a < t.length) {L : List (List Nat)} : ∀ (ws : List (List Nat)) (S : List Nat) (Gr : List (List Nat)) (w0 y0 : Option (T × Ow)), (∀ w ∈ ws, Wlk t a b S w) → (∀ g ∈ Gr, Wlk t a b S g) → S.Nodup → (∀ s ∈ S, s < t.length) → Gr.length ≤ S.length →
    (∃ r st, forGo (.nm 6) none (fun s => exs G C wayM s) (rowsT ws) (stB t a b L S (grT Gr) w0 y0) = .rt (.tup (nums r)) true st ∧ Way t a b r) ∨
    ∃ S' Gr' w' y', forGo (.nm 6) none (fun s => exs G C wayM s) (rowsT ws) (stB t a b L S (grT Gr) w0 y0) = .nx (stB t a b L S' (grT Gr') w' y') ∧ WOut t a b S S' Gr Gr' ∧ (∀ w ∈ ws, ∀ z, w.getLast? = some z → Exp t b S' z)
  | [], S, Gr, w0, y0, _, hg, nd, lt, _ => .inr ⟨S, Gr, w0, y0, rfl, WOut.refl hg nd lt, by simp⟩
  | w :: ws, S, Gr, w0, y0, hw, hg, nd, lt, hle => by
    have hw1 := hw w (by simp)
    obtain ⟨u, eu, _, hu⟩ := hw1.ex
    obtain ⟨z, hl⟩ : ∃ z, w.getLast? = some z := by
      rw [eu]
      exact ⟨_, List.getLast?_cons ..⟩
    have hzt : z < t.length := by
      have := List.mem_of_getLast? hl
      rw [eu] at this
      rcases List.mem_cons.mp this with e | q
      · rw [e]; exact ha
      · exact lt z (hu z q).1
    have e1 : Ev G C (.call f_things_in [(.op2 .idx (.var 0) (.op2 .idx (.var 6) (.op1 .neg (.con (.int 1)))))]) (stB t a b L S (grT Gr) (wkT w) y0) (.lst (nums (thingsN (rowN t z)))) true (stB t a b L S (grT Gr) (wkT w) y0) :=
      Ev.call1 (F := B_things_in) rfl rfl rfl (Ev.two rfl rfl (Ev.var rfl lfT) (Ev.two rfl rfl (Ev.var rfl Lf.nums) (Ev.one rfl Ev.con V1.neg1) (ixL hl)) (idT hzt)) (hC _)
    have ef : ∀ r, forGo (.nm 6) none (fun s => exs G C wayM s) (rowsT (w :: ws)) (stB t a b L S (grT Gr) w0 y0) = r ↔ (match exs G C wayM (stB t a b L S (grT Gr) (wkT w) y0) with | .nx s2 => forGo (.nm 6) none (fun s => exs G C wayM s) (rowsT ws) s2 | r => r) = r := fun r => by
      show forGo _ none _ (.tup (nums w) :: rowsT ws) _ = r ↔ _
      rw [forGo]
      rfl
    rcases way_in (C := C) (L := L) hT hl (thingsN (rowN t z)) S Gr y0 (fun y hy => (things_mem hT).mp hy) hw1 hg nd lt hle with ⟨st, q1, q2⟩ | ⟨S', Gr', y', q1, q2, q3⟩
    · left
      have hs : Sts G C wayM (stB t a b L S (grT Gr) (wkT w) y0) (.rt (.tup (nums (w ++ [b]))) true st) := Sts.rt ⟨x_fr1 rfl e1.h rfl q1⟩
      refine ⟨w ++ [b], st, ?_, q2⟩
      rw [ef, hs.h]
    · have hs : Sts G C wayM (stB t a b L S (grT Gr) (wkT w) y0) (.nx (stB t a b L S' (grT Gr') (wkT w) y')) := Sts.cons ⟨x_fr1 rfl e1.h rfl q1⟩ Sts.nil
      have hx : Exp t b S' z := fun y hy => q3 y ((things_mem hT).mpr hy)
      rcases way_mid hT hC ha (L := L) ws S' Gr' (wkT w) y' (fun v hv => (hw v (by simp [hv])).mono q2.ss) q2.wl q2.nd q2.lt (by have := q2.ln; omega) with ⟨r, st, p1, p2⟩ | ⟨S2, G2, w2, y2, p1, p2, p3⟩
      · left
        refine ⟨r, st, ?_, p2⟩
        rw [ef, hs.h]
        exact p1
      · right
        refine ⟨S2, G2, w2, y2, ?_, q2.trans p2, fun v hv x hx2 => ?_⟩
        · rw [ef, hs.h]
          exact p1
        · rcases List.mem_cons.mp hv with e | hv
          · subst e
            rw [hl] at hx2
            cases hx2
            exact fun y hy => ⟨p2.ss y (hx y hy).1, (hx y hy).2⟩
          · exact p3 v hv x hx2
/-- what holds ahead of each round -/
structure WInv (t : List Nat) (a b : Nat) (L : List (List Nat)) (S : List Nat) : Prop where
  wl : ∀ w ∈ L, Wlk t a b S w
  ex : ∀ z, (z = a ∨ z ∈ S) → Exp t b S z ∨ ∃ w ∈ L, w.getLast? = some z
  nd : S.Nodup
  lt : ∀ s ∈ S, s < t.length
theorem WInv.none {a b : Nat} {S : List Nat} (h : WInv t a b [] S) : ¬ Reach t a b := by
  have key : ∀ y, Reach t a y → y ∈ S ∧ y ≠ b := fun y q => by
    induction q with
    | one q =>
      rcases h.ex a (.inl rfl) with e | ⟨w, hw, _⟩
      · exact e _ q
      · cases hw
    | more _ q ih =>
      rcases h.ex _ (.inr ih.1) with e | ⟨w, hw, _⟩
      · exact e _ q
      · cases hw
  exact fun q => (key b q).2 rfl
def wayW : List S := [.own 5 (.lst []), .fr (.nm 6) (.var 3) wayM, .set 3 (.op1 .list (.brw 5))]
theorem way_go (hT : Tie t) (hC : ThingsC C) {a b : Nat} (ha : a < t.length) : ∀ (k : Nat) (L : List (List Nat)) (S : List Nat) (g w y : Option (T × Ow)), WInv t a b L S → 1 ≤ k → (L ≠ [] → 8 ≤ k + S.length) →
    (∃ r st, whGo (fun s => ev G C (.op2 .gt (.op1 .len (.var 3)) (.con (.int 0))) s) (fun s => exs G C wayW s) k (stB t a b L S g w y) = .rt (.tup (nums r)) true st ∧ Way t a b r) ∨
    (∃ S' g' w' y', whGo (fun s => ev G C (.op2 .gt (.op1 .len (.var 3)) (.con (.int 0))) s) (fun s => exs G C wayW s) k (stB t a b L S g w y) = .nx (stB t a b [] S' g' w' y') ∧ ¬ Reach t a b)
  | 0, L, S, g, w, y, _, h1, _ => by omega
  | k + 1, L, S, g, w, y, h, _, hk => by
    have et : Ev G C (.op2 .gt (.op1 .len (.var 3)) (.con (.int 0))) (stB t a b L S g w y) (.bl (decide ((0 : Int) < (L.length : Nat)))) true (stB t a b L S g w y) :=
      Ev.two rfl rfl (Ev.one rfl (Ev.varL rfl) ⟨by simp [o1, lenT, rowsT_len], rfl⟩) Ev.con V2.gt
    rw [whGo, et.h]
    cases L with
    | nil =>
      right
      exact ⟨S, g, w, y, by simp [Rv.fl, T.tr], h.none⟩
    | cons w1 L =>
      have e : decide ((0 : Int) < ((w1 :: L).length : Nat)) = true := by rw [decide_eq_true_eq, List.length_cons]; omega
      rw [e]
      simp only [Rv.fl, T.tr]
      have hk := hk (by simp)
      have hS6 : S.length ≤ 6 := by
        have := nodup_le t.length S h.nd h.lt
        have := hT.six
        omega
      have s1 : St G C (.own 5 (.lst [])) (stB t a b (w1 :: L) S g w y) (.nx (stB t a b (w1 :: L) S (grT []) w y)) := St.own Ev.lst0
      rcases way_mid (C := C) hT hC ha (L := w1 :: L) (w1 :: L) S [] w y h.wl (by simp) h.nd h.lt (by simp) with ⟨r, st, p1, p2⟩ | ⟨S2, G2, w2, y2, p1, p2, p3⟩
      · left
        have hs : Sts G C wayW (stB t a b (w1 :: L) S g w y) (.rt (.tup (nums r)) true st) := Sts.cons s1 (Sts.rt ⟨x_fr1 rfl (Ev.varL (C := C) (G := G) (l := rowsT (w1 :: L)) rfl).h rfl p1⟩)
        exact ⟨r, st, by rw [hs.h], p2⟩
      · have ls : V1 .list (.lst (rowsT G2)) (.lst (rowsT G2)) := ⟨rfl, by
          show (T.lst (rowsT G2)).inner = true
          rw [T.inner]; exact rowsT_lf _⟩
        have hs : Sts G C wayW (stB t a b (w1 :: L) S g w y) (.nx (stB t a b G2 S2 (grT G2) w2 y2)) :=
          Sts.cons s1 (Sts.cons ⟨x_fr1 rfl (Ev.varL (C := C) (G := G) (l := rowsT (w1 :: L)) rfl).h rfl p1⟩ (Sts.cons (St.set (Ev.oneb (.inl rfl) ls)) Sts.nil))
        rw [hs.h]
        have inv : WInv t a b G2 S2 := ⟨p2.wl, fun z hz => by
          have old : (z = a ∨ z ∈ S) → Exp t b S2 z ∨ ∃ w ∈ G2, w.getLast? = some z := fun hz => by
            rcases h.ex z hz with q | ⟨v, hv, q⟩
            · exact .inl fun y hy => ⟨p2.ss y (q y hy).1, (q y hy).2⟩
            · exact .inl (p3 v hv z q)
          rcases hz with e | hz
          · exact old (.inl e)
          · rcases p2.nw z hz with q | q
            · exact old (.inr q)
            · exact .inr q, p2.nd, p2.lt⟩
        have ln := p2.ln
        simp only [List.length_nil, Nat.zero_add] at ln
        refine way_go hT hC ha k G2 S2 (grT G2) w2 y2 inv (by omega) fun hne => ?_
        have : 0 < G2.length := by
          cases G2 with
          | nil => exact absurd rfl hne
          | cons _ _ => simp
        omega
theorem way_run (hT : Tie t) (hC : ThingsC C) {a b : Nat} (ha : a < t.length) : (∃ r, runFn G C B_way_between [tieT t, .int a, .int b] = .ok (.tup (nums r)) true [] ∧ Way t a b r) ∨ (runFn G C B_way_between [tieT t, .int a, .int b] = .ok .non true [] ∧ ¬ Reach t a b) := by
  obtain ⟨k, hk⟩ := wf_8
  have i1 : ∀ w ∈ [[a]], Wlk t a b [] w := fun w hw => by
    rw [List.mem_singleton.mp hw]
    exact ⟨⟨[], rfl, List.nodup_nil, by simp⟩, trivial⟩
  have i2 : ∀ z, (z = a ∨ z ∈ ([] : List Nat)) → Exp t b [] z ∨ ∃ w ∈ [[a]], w.getLast? = some z := fun z hz => by
    rcases hz with e | hz
    · exact .inr ⟨[a], by simp, by rw [e]; rfl⟩
    · cases hz
  have i0 : WInv t a b [[a]] [] := ⟨i1, i2, List.nodup_nil, by simp⟩
  have s1 : St G C (.par [(3, false), (4, true)] [(.lst [(.tup [(.var 1)])]), (.lst [])]) [some (tieT t, .sh), some (.int a, .sh), some (.int b, .sh), none, none, none, none, none] (.nx (stB t a b [[a]] [] none none none)) := by
    have e1 : Ev G C (.lst [(.tup [(.var 1)])]) [some (tieT t, .sh), some (.int a, .sh), some (.int b, .sh), none, none, none, none, none] (.lst (rowsT [[a]])) true [some (tieT t, .sh), some (.int a, .sh), some (.int b, .sh), none, none, none, none, none] := ⟨by simp [ev, evs, rd, Rv.bind, LIM, T.lf, rowsT, nums]⟩
    exact St.par2 e1 Ev.lst0 rfl
  rcases way_go (C := C) hT hC ha (k + 8) [[a]] [] none none none i0 (by omega) (by simp) with ⟨r, st, p1, p2⟩ | ⟨S', g', w', y', p1, p2⟩
  · left
    refine ⟨r, ?_, p2⟩
    apply run_s (F := B_way_between) rfl (s0 := [some (tieT t, .sh), some (.int a, .sh), some (.int b, .sh), none, none, none, none, none]) rfl
    · exact Sts.cons s1 (Sts.rt ⟨by rw [ex1, hk]; exact p1⟩)
    · rfl
  · right
    refine ⟨?_, p2⟩
    apply run_s (F := B_way_between) rfl (s0 := [some (tieT t, .sh), some (.int a, .sh), some (.int b, .sh), none, none, none, none, none]) rfl
    · exact Sts.cons s1 (Sts.cons ⟨by rw [ex1, hk]; exact p1⟩ (Sts.rt (St.ret Ev.con)))
    · rfl
end

local macro_rules | `(tactic| walk_at "lfgo") => `(tactic| first | exact Lf.int | exact Lf.bl | exact Lf.nums | exact lfT | exact Lf.non | exact Lf.str | exact Lf.wd (by first | decide | assumption) | assumption)
local macro_rules | `(tactic| walk_at "trT") => `(tactic| first | exact Tr.blT | (apply Tr.of; decide) | (apply Tr.of; rfl) | (apply Tr.of; simp only [*]; done) | (apply Tr.of; simp only [*]; rfl) | fail)
local macro_rules | `(tactic| walk_at "trF") => `(tactic| first | exact Tr.blF | (apply Tr.of; decide) | (apply Tr.of; rfl) | (apply Tr.of; simp only [*]; done) | (apply Tr.of; simp only [*]; rfl) | fail)
local macro_rules | `(tactic| walk_at "vgo") => `(tactic| first | exact V2.eqN | exact V2.eqI | exact V2.neN | exact V2.eqB | exact V2.neB | exact idT (by assumption) | exact ix0 | exact ix1 | exact ix2 | exact ixL rfl | exact V1.neg1 | exact V2.lt | exact V2.le | exact V2.gt | exact V2.ge | exact V1.lenN | exact V1.lenNl | exact V1.isTup | exact V1.isInt | exact V1.isBoolI | exact V1.isBoolB | exact V1.isNn | exact V1.isNt | exact V1.notNn | exact V1.notNt | exact V1.isStr (by first | decide | assumption) | exact Mm.nm | exact Mm.nmt | exact q0 (by decide) | exact q1 (by decide) | exact q2 (by decide) | exact q3 (by decide) | exact q4 (by decide) | exact q5 (by decide) | exact q6 (by decide) | exact q7 (by decide) | exact q8 (by decide) | exact q9 (by decide) | exact q10 (by decide) | exact q11 (by decide) | exact q12 (by decide) | exact q13 (by decide) | exact q14 (by decide) | exact q15 (by decide) | exact q16 (by decide) | exact q17 (by decide) | exact r_tup_asym_anti (by decide) | exact r_tup_total_conn (by decide) | exact r_tup_refl_irr_serial_inv (by decide) | exact r_lst_refl_irr_serial_inv (by decide) | exact r_lst_trans_neg_eucl_func (by decide) | exact r_lst_refl_irr (by decide) | exact r_lst_sym_asym (by decide) | exact r_lst_anti_conn (by decide) | exact r_lst_total_full (by decide) | exact r_lst_ident_one (by decide) | apply V2.mem | apply V2.nmem | fail)
local macro_rules | `(tactic| walk_at "ev1") => `(tactic| first | exact Ev.con | assumption | exact Ev.var rfl (by walk_at "lfgo") | exact Ev.varL rfl | apply Ev.and | apply Ev.or | apply Ev.chain | apply Ev.not rfl | apply Ev.call1 rfl rfl rfl | apply Ev.call2 rfl rfl rfl rfl | apply Ev.call3 rfl rfl rfl rfl rfl | apply Ev.call4 rfl rfl rfl rfl rfl rfl | apply Ev.call5 rfl rfl rfl rfl rfl rfl rfl | apply Ev.call0 rfl rfl | walk_at "ite" | apply Ev.one rfl | apply Ev.two rfl rfl | exact Ev.tup0 | exact Ev.lst0 | apply Ev.tup1 | apply Ev.tup2 | apply Ev.tup4 | apply Ev.lst2 | apply Ev.lst3 | apply Ev.lst4 | walk_at "vgo" | apply_assumption | fail)
local macro_rules | `(tactic| walk_at "evgo") => `(tactic| repeat' (walk_at "ev1"))
local macro_rules | `(tactic| walk_at "ite") => `(tactic| first | (apply Ev.iteT; (· walk_at "evgo"); (· walk_at "trT")) | (apply Ev.iteF; (· walk_at "evgo"); (· walk_at "trF")) | fail)
local macro_rules | `(tactic| walk_at "st1") => `(tactic| first | exact Sts.nil | (apply Sts.rt; apply St.ret; walk_at "evgo") | (apply Sts.cons; (· (apply St.skip; (· walk_at "evgo"); (· walk_at "trF")))) | (apply Sts.rt; apply St.iffT; (· walk_at "evgo"); (· walk_at "trT")) | (apply Sts.cons; (· (apply St.set; (· walk_at "evgo")))) | (apply Sts.cons; (· (apply St.par2; (· walk_at "evgo"); (· walk_at "evgo"); (· rfl)))) | (apply Sts.cons; (· (apply St.unp; (· walk_at "evgo"); (· rfl)))) | fail)
local macro_rules | `(tactic| walk_at "stgo") => `(tactic| repeat' (walk_at "st1"))
/-! ### rounds -/
theorem onceI_nd : ∀ {l : List Int}, l.Nodup → onceI l = l
  | [], _ => rfl
  | a :: l, h => by
    obtain ⟨h1, h2⟩ := List.nodup_cons.mp h
    rw [onceI, if_neg h1, onceI_nd h2]
theorem intsOf_nums : ∀ l : List Nat, intsOf (nums l) = some (l.map fun (n : Nat) => (n : Int))
  | [] => rfl
  | a :: l => by
    show intsOf (.int a :: nums l) = _
    rw [intsOf, intsOf_nums l]; rfl
theorem V1.lenSet' {c : List Nat} (h : c.Nodup) (hl : c.length ≤ 1000) : V1 .lenSet (.tup (nums c)) (.int c.length) := ⟨by
  have e : (nums c).length ≤ 4000 := by rw [nums_len]; omega
  have nd : (c.map fun (n : Nat) => (n : Int)).Nodup := by
    clear hl e
    induction c with
    | nil => simp
    | cons a c ih =>
      obtain ⟨h1, h2⟩ := List.nodup_cons.mp h
      rw [List.map_cons, List.nodup_cons]
      refine ⟨fun q => ?_, ih h2⟩
      obtain ⟨b, hb, e⟩ := List.mem_map.mp q
      have : b = a := by omega
      exact h1 (this ▸ hb)
  simp only [o1, lenSetT, e, if_true, intsOf_nums, Option.map_some, onceI_nd nd, List.length_map], rfl⟩
theorem ch_zip {t : List Nat} {b : Nat} : ∀ (u : List Nat) (a : Nat), Ch t (a :: (u ++ [b])) → ∀ p ∈ (a :: u).zip (u ++ [b]), R t p.1 p.2 = true
  | [], a, h, p, hp => by
    simp at hp
    subst hp
    exact h.1
  | c :: u, a, h, p, hp => by
    have h' : R t a c = true ∧ Ch t (c :: (u ++ [b])) := h
    rw [List.cons_append, List.zip_cons_cons] at hp
    rcases List.mem_cons.mp hp with e | hp
    · rw [e]; exact h'.1
    · exact ch_zip u c h'.2 p hp
/-- a round: x and the things behind it -/
structure Rnd (t : List Nat) (x : Nat) (u : List Nat) : Prop where
  nd : (x :: u).Nodup
  lt : ∀ z ∈ x :: u, z < t.length
  ch : Ch t (x :: (u ++ [x]))
theorem ch_lt {t : List Nat} (hT : Tie t) {b : Nat} : ∀ (u : List Nat) (a : Nat), Ch t (a :: (u ++ [b])) → ∀ z ∈ a :: u, z < t.length
  | [], a, h, z, hz => by
    rw [List.mem_singleton.mp hz]
    exact (hT.r_lt h.1).1
  | c :: u, a, h, z, hz => by
    have h' : R t a c = true ∧ Ch t (c :: (u ++ [b])) := h
    rcases List.mem_cons.mp hz with e | hz
    · rw [e]; exact (hT.r_lt h'.1).1
    · exact ch_lt hT u c h'.2 z hz
theorem Way.rnd {t : List Nat} (hT : Tie t) {x : Nat} {r : List Nat} (h : Way t x x r) : ∃ u, r.dropLast = x :: u ∧ Rnd t x u := by
  obtain ⟨u, h1, h2, h3⟩ := h.ex
  have hc := h.ch
  rw [h1] at hc
  refine ⟨u, by rw [h1, ← List.cons_append, List.dropLast_concat], ⟨List.nodup_cons.mpr ⟨h3, h2⟩, ch_lt hT u x hc, hc⟩⟩
theorem Rnd.six {t : List Nat} (hT : Tie t) {x : Nat} {u : List Nat} (h : Rnd t x u) : (x :: u).length ≤ 6 := by
  have := nodup_le t.length (x :: u) h.nd h.lt
  have := hT.six
  omega
/-- ring[k - 1] is tied to ring[k] -/
theorem Rnd.at_ {t : List Nat} {x : Nat} {u : List Nat} (h : Rnd t x u) {k : Nat} (hk : k < (x :: u).length) : ∃ a b : Nat, (x :: u)[k]? = some b ∧ V2 .idx (.tup (nums (x :: u))) (.int ((k : Int) - 1)) (.int a) ∧ R t a b = true := by
  cases k with
  | zero =>
    have hl : ∃ a, (x :: u).getLast? = some a := ⟨_, List.getLast?_cons ..⟩
    obtain ⟨a, ha⟩ := hl
    refine ⟨a, x, rfl, ixL ha, ?_⟩
    have key : ∀ (u : List Nat) (c : Nat), Ch t (c :: (u ++ [x])) → ∀ a, (c :: u).getLast? = some a → R t a x = true := fun u => by
      induction u with
      | nil =>
        intro c h a ha
        simp at ha
        subst ha
        exact h.1
      | cons d u ih =>
        intro c h a ha
        exact ih d h.2 a (by simpa using ha)
    exact key u x h.ch a ha
  | succ k =>
    have hk' : k < u.length := by simpa using hk
    have hk2 : k < (x :: u).length := by simp; omega
    refine ⟨(x :: u)[k], u[k], by simp [hk'], ?_, ?_⟩
    · have e : ((k + 1 : Nat) : Int) - 1 = (k : Nat) := by omega
      rw [e]
      exact V2.idxN (List.getElem?_eq_getElem hk2)
    · have hz := ch_zip u x h.ch ((x :: u)[k], (u ++ [x])[k]'(by simp; omega)) (by
        rw [List.mem_iff_getElem]
        exact ⟨k, by simp; omega, by simp⟩)
      have e : (u ++ [x])[k]'(by simp; omega) = u[k] := List.getElem_append_left hk'
      rw [e] at hz
      exact hz
section
variable {C : Nat → List T → CR} {t : List Nat}
def WayC (C : Nat → List T → CR) (t : List Nat) : Prop := ∀ x, x < t.length → (∃ r, Cv C f_way_between [tieT t, .int x, .int x] (.tup (nums r)) true ∧ Way t x x r) ∨ (Cv C f_way_between [tieT t, .int x, .int x] .non true ∧ ¬ Reach t x x)
def rnG : T → List (T × Bool)
  | .tup xs => [(.tup [.int xs.length, .tup xs], true)]
  | _ => []
theorem alikeN : ∀ a b : List Nat, PySem.W.alikeAll (T.datL (nums a)) (T.datL (nums b)) = true
  | [], b => by simp [nums, T.datL, PySem.W.alikeAll]
  | x :: a, [] => by simp [nums, T.datL, PySem.W.alikeAll]
  | x :: a, y :: b => by
    show PySem.W.alikeAll (T.datL (.int x :: nums a)) (T.datL (.int y :: nums b)) = true
    rw [T.datL, T.datL, PySem.W.alikeAll, alikeN a b]
    simp [T.dat, PySem.W.alike]
theorem sor_rounds {ws : List T} (h : ∀ w ∈ ws, ∃ r : List Nat, w = .tup [.int (r.length : Nat), .tup (nums r)]) (hl : ws.length ≤ 1000) : sorT ws = some (ws.mergeSort leT) := by
  unfold sorT
  have c1 : T.pdL 59 ws = true := pdL_iff.mpr fun w hw => by
    obtain ⟨r, e⟩ := h w hw
    rw [e]
    simp [T.pd, T.pdL, nums_pd]
  have c2 : T.lfL ws = true := lfL_iff.mpr fun w hw => by
    obtain ⟨r, e⟩ := h w hw
    rw [e]
    simp [T.lf, T.lfL, nums_lf]
  have c3 : (ws.all fun a => ws.all fun b => PySem.W.alike a.dat b.dat) = true := by
    rw [List.all_eq_true]
    intro a ha
    rw [List.all_eq_true]
    intro b hb
    obtain ⟨r, e⟩ := h a ha
    obtain ⟨q, e2⟩ := h b hb
    rw [e, e2]
    simp [T.dat, T.datL, PySem.W.alike, PySem.W.alikeAll, alikeN]
  have c4 : ws.all T.row = true := by
    rw [List.all_eq_true]
    intro a ha
    obtain ⟨r, e⟩ := h a ha
    rw [e]; rfl
  have c5 : ws.length ≤ LIM := by unfold LIM; omega
  rw [if_pos]
  rw [c1, c2, c3, c4, decide_eq_true c5]; rfl
theorem found_round_run (hT : Tie t) (hW : WayC C t) : (runFn G C B_found_round [tieT t] = .ok .non true [] ∧ ∀ x, x < t.length → ¬ Reach t x x) ∨ (∃ x u, runFn G C B_found_round [tieT t] = .ok (.tup (nums (x :: u))) true [] ∧ Rnd t x u) := by
  have hex : ∀ x : Nat, ∃ z : T, x < t.length → Cv C f_way_between [tieT t, .int x, .int x] z true ∧ ((∃ r, z = .tup (nums r) ∧ Way t x x r) ∨ (z = .non ∧ ¬ Reach t x x)) := fun x => by
    by_cases hx : x < t.length
    · rcases hW x hx with ⟨r, c, w⟩ | ⟨c, w⟩
      · exact ⟨_, fun _ => ⟨c, .inl ⟨r, rfl, w⟩⟩⟩
      · exact ⟨_, fun _ => ⟨c, .inr ⟨rfl, w⟩⟩⟩
    · exact ⟨.non, fun q => absurd q hx⟩
  obtain ⟨W, hWf⟩ := Classical.axiomOfChoice hex
  have q1 := ev_map (G := G) (C := C) (t := .nm 3) (it := .op1 .rng (.op1 .len (.var 0))) (elt := .call f_way_between [(.var 0), (.var 3), (.var 3)]) (own := [3]) (h := fun z => (match z with | .int k => W k.toNat | _ => .non, true)) (xs := nums (List.range t.length)) (s := [some (tieT t, .sh), none, none, none, none]) (ag_of rfl (rngLen (C := C) hT rfl).h) rfl rfl (fun z hz => by
    obtain ⟨x, hx, rfl⟩ := List.mem_map.mp hz
    have hx := List.mem_range.mp hx
    refine ⟨[some (tieT t, .sh), none, none, some (.int x, .sh), none], [some (tieT t, .sh), none, none, some (.int x, .sh), none], rfl, Ev.h ?_, rfl⟩
    exact Ev.call3 (F := B_way_between) rfl rfl rfl rfl rfl (Ev.var rfl lfT) (Ev.var rfl Lf.int) (Ev.var rfl Lf.int) (hWf x hx).1) (by rw [nums_len, List.length_range]; exact Nat.le_trans hT.six (by simp [LIM]))
  have ew : (nums (List.range t.length)).map (fun z => ((match z with | .int k => W k.toNat | _ => .non, true) : T × Bool).1) = (List.range t.length).map W := by
    unfold nums; rw [List.map_map]; rfl
  rw [ew] at q1
  -- the found ones
  have form : ∀ z ∈ (List.range t.length).map W, (∃ x r, z = .tup (nums r) ∧ Way t x x r) ∨ z = .non := fun z hz => by
    obtain ⟨x, hx, rfl⟩ := List.mem_map.mp hz
    rcases (hWf x (List.mem_range.mp hx)).2 with ⟨r, e, w⟩ | ⟨e, _⟩
    · exact .inl ⟨x, r, e, w⟩
    · exact .inr e
  have glen : ∀ ws : List T, (ws.flatMap rnG).length ≤ ws.length := fun ws => by
    induction ws with
    | nil => simp
    | cons a ws ih =>
      rw [List.flatMap_cons, List.length_append, List.length_cons]
      have : (rnG a).length ≤ 1 := by cases a <;> simp [rnG]
      omega
  have q2 := ev_lc (G := G) (C := C) (t := .nm 4) (it := .var 1) (cs := [(.op1 .notN (.var 4))]) (elt := .tup [(.op1 .len (.var 4)), (.var 4)]) (own := [4]) (g := rnG) (xs := (List.range t.length).map W) (s := [some (tieT t, .sh), some (.lst ((List.range t.length).map W), .sh), none, none, none]) (ag_of rfl (Ev.varL (C := C) (G := G) (l := (List.range t.length).map W) rfl).h) rfl rfl (fun z hz => by
    refine ⟨[some (tieT t, .sh), some (.lst ((List.range t.length).map W), .sh), none, none, some (z, .sh)], [some (tieT t, .sh), some (.lst ((List.range t.length).map W), .sh), none, none, some (z, .sh)], rfl, ?_, rfl⟩
    rcases form z hz with ⟨x, r, e, _⟩ | e
    · subst e
      have e1 : Ev G C (.op1 .notN (.var 4)) [some (tieT t, .sh), some (.lst ((List.range t.length).map W), .sh), none, none, some (.tup (nums r), .sh)] (.bl true) true [some (tieT t, .sh), some (.lst ((List.range t.length).map W), .sh), none, none, some (.tup (nums r), .sh)] := Ev.one rfl (Ev.var rfl Lf.nums) V1.notNt
      have e2 : Ev G C (.tup [(.op1 .len (.var 4)), (.var 4)]) [some (tieT t, .sh), some (.lst ((List.range t.length).map W), .sh), none, none, some (.tup (nums r), .sh)] (.tup [.int r.length, .tup (nums r)]) true [some (tieT t, .sh), some (.lst ((List.range t.length).map W), .sh), none, none, some (.tup (nums r), .sh)] := Ev.tup2 (Ev.one rfl (Ev.var rfl Lf.nums) V1.lenN) (Ev.var rfl Lf.nums)
      rw [evc, e1.h]
      simp only [Rv.bind, T.tr]
      rw [evc, e2.h]
      simp [rnG, nums_len]
    · subst e
      have e1 : Ev G C (.op1 .notN (.var 4)) [some (tieT t, .sh), some (.lst ((List.range t.length).map W), .sh), none, none, some (.non, .sh)] (.bl false) true [some (tieT t, .sh), some (.lst ((List.range t.length).map W), .sh), none, none, some (.non, .sh)] := Ev.one rfl (Ev.var rfl Lf.non) V1.notNn
      rw [evc, e1.h]
      simp [Rv.bind, T.tr, rnG]) (by
    have := glen ((List.range t.length).map W)
    rw [List.length_map, List.length_range] at this
    have := hT.six
    unfold LIM; omega)
  have rform : ∀ w ∈ (((List.range t.length).map W).flatMap rnG).map (·.1), ∃ r : List Nat, w = .tup [.int (r.length : Nat), .tup (nums r)] ∧ ∃ x, Way t x x r := fun w hw => by
    obtain ⟨p, hp, rfl⟩ := List.mem_map.mp hw
    obtain ⟨z, hz, hp⟩ := List.mem_flatMap.mp hp
    rcases form z hz with ⟨x, r, e, hwy⟩ | e
    · subst e
      simp only [rnG, List.mem_singleton] at hp
      exact ⟨r, by rw [hp]; simp [nums_len], x, hwy⟩
    · subst e
      simp [rnG] at hp
  have hlr : ((((List.range t.length).map W).flatMap rnG).map (·.1)).length ≤ 6 := by
    rw [List.length_map]
    have := glen ((List.range t.length).map W)
    rw [List.length_map, List.length_range] at this
    have := hT.six
    omega
  generalize hrl : (((List.range t.length).map W).flatMap rnG).map (·.1) = rl at q2 rform hlr
  have hs := sor_rounds (ws := rl) (fun w hw => by obtain ⟨r, e, _⟩ := rform w hw; exact ⟨r, e⟩) (by omega)
  have perm := List.mergeSort_perm rl leT
  have so : V1 .sorted (.lst rl) (.lst (rl.mergeSort leT)) := ⟨by simp [o1, hs], by
    show (T.lst (rl.mergeSort leT)).inner = true
    rw [T.inner, lfL_iff]
    intro w hw
    obtain ⟨r, e, _⟩ := rform w (perm.mem_iff.mp hw)
    rw [e]
    simp [T.lf, T.lfL, nums_lf]⟩
  have st : ∀ z : T, Ev G C (.ite (.op2 .gt (.op1 .len (.var 2)) (.con (.int 0))) (.op2 .upto (.op2 .idx (.op2 .idx (.var 2) (.con (.int 0))) (.con (.int 1))) (.op1 .neg (.con (.int 1)))) (.con (.non))) [some (tieT t, .sh), some (.lst ((List.range t.length).map W), .sh), some (.lst (rl.mergeSort leT), .sh), none, none] z true [some (tieT t, .sh), some (.lst ((List.range t.length).map W), .sh), some (.lst (rl.mergeSort leT), .sh), none, none] → runFn G C B_found_round [tieT t] = .ok z true [] := fun z hz => by
    apply run_s (F := B_found_round) rfl (s0 := [some (tieT t, .sh), none, none, none, none]) rfl
    · exact Sts.cons (St.set ⟨q1⟩) (Sts.cons (St.set (Ev.one rfl ⟨q2⟩ so)) (Sts.rt (St.ret hz)))
    · rfl
  have lenE : V1 .len (.lst (rl.mergeSort leT)) (.int ((rl.mergeSort leT).length : Nat)) := ⟨rfl, rfl⟩
  cases hm : rl.mergeSort leT with
  | nil =>
    left
    have hnil : rl = [] := by
      cases hrl2 : rl with
      | nil => rfl
      | cons a r =>
        have := perm.length_eq
        rw [hm, hrl2] at this
        simp at this
    refine ⟨st .non ?_, fun x hx hre => ?_⟩
    · rw [hm] at lenE ⊢
      exact Ev.iteF (Ev.two rfl rfl (Ev.one rfl (Ev.varL rfl) lenE) Ev.con V2.gt) (Tr.of (by simp)) Ev.con
    · rcases (hWf x hx).2 with ⟨r, e, _⟩ | ⟨_, q⟩
      · have : (T.tup [.int ((nums r).length : Nat), .tup (nums r)]) ∈ rl := by
          rw [← hrl, List.mem_map]
          refine ⟨(.tup [.int ((nums r).length : Nat), .tup (nums r)], true), List.mem_flatMap.mpr ⟨W x, List.mem_map.mpr ⟨x, List.mem_range.mpr hx, rfl⟩, ?_⟩, rfl⟩
          rw [e]; simp [rnG]
        rw [hnil] at this
        cases this
      · exact q hre
  | cons y ys =>
    right
    have hy : y ∈ rl := perm.mem_iff.mp (by rw [hm]; simp)
    obtain ⟨r, e, x, hwy⟩ := rform y hy
    obtain ⟨u, eu, hr⟩ := hwy.rnd hT
    refine ⟨x, u, st _ ?_, hr⟩
    have hr0 : 0 < r.length := by
      obtain ⟨v, ev, _⟩ := hwy.ex
      rw [ev]; simp
    have i0 : V2 .idx (.lst (y :: ys)) (.int 0) y := ⟨by simp [o2, idxT, ixN], by rw [e]; simp [O2.rk, Rk.own, T.lf, T.lfL, nums_lf]⟩
    have i1 : V2 .idx y (.int 1) (.tup (nums r)) := ⟨by rw [e]; simp [o2, idxT, ixN], by simp [O2.rk, Rk.own, T.lf, nums_lf]⟩
    have up : V2 .upto (.tup (nums r)) (.int (-1)) (.tup (nums (x :: u))) := ⟨by
      rw [← eu]
      have hl : (nums r).length = r.length := nums_len r
      simp only [o2, cutT, cut, sIx]
      rw [hl, List.drop_zero]
      congr 2
      have : ((-1 + (r.length : Int)).toNat - 0) = r.length - 1 := by omega
      simp only [show ((-1 : Int) < 0) = True by simp, if_true, this]
      rw [← hl, ← List.dropLast_eq_take]
      simp [nums, List.map_dropLast], by
      show (T.tup (nums (x :: u))).inner = true
      rw [T.inner]; exact nums_lf _⟩
    rw [hm] at lenE ⊢
    exact Ev.iteT (Ev.two rfl rfl (Ev.one rfl (Ev.varL rfl) lenE) Ev.con V2.gt) (Tr.of (by rw [decide_eq_true_eq, List.length_cons]; omega)) (Ev.two rfl rfl (Ev.two rfl rfl (Ev.two rfl rfl (Ev.varL rfl) Ev.con i0) Ev.con i1) (Ev.one rfl Ev.con V1.neg1) up)
/-! acyc -/
theorem found13_run {z : T} {b : Bool} (hf : Cv C f_found_round [tieT t] z true) (hz : Lf z) (hn : V1 .isN z (.bl b)) : runFn G C B_found_objection [tieT t, wd 13] = .ok (if b then .non else .tup [wd 13, z]) true [] := by
  have e1 : Ev G C (.op2 .eq (.var 1) (.con (.str "acyc"))) [some (tieT t, .sh), some (wd 13, .sh), none, none] (.bl (decide (13 = 13))) true [some (tieT t, .sh), some (wd 13, .sh), none, none] := Ev.two rfl rfl (Ev.var rfl (Lf.wd (by decide))) Ev.con (q13 (by decide))
  have e2 : Ev G C (.ite (.op1 .isN (.var 3)) (.con (.non)) (.tup [(.var 1), (.var 3)])) [some (tieT t, .sh), some (wd 13, .sh), none, some (z, .sh)] (if b then .non else .tup [wd 13, z]) true [some (tieT t, .sh), some (wd 13, .sh), none, some (z, .sh)] := by
    cases b with
    | true => exact Ev.iteT (Ev.one rfl (Ev.var rfl hz) hn) Tr.blT Ev.con
    | false => exact Ev.iteF (Ev.one rfl (Ev.var rfl hz) hn) Tr.blF (Ev.tup2 (Ev.var rfl (Lf.wd (by decide))) (Ev.var rfl hz))
  apply run_s (F := B_found_objection) rfl (s0 := [some (tieT t, .sh), some (wd 13, .sh), none, none]) rfl
  · exact Sts.rt (St.iffT e1 Tr.blT (Sts.cons (St.set (Ev.call1 (F := B_found_round) rfl rfl rfl (Ev.var rfl lfT) hf)) (Sts.rt (St.ret e2))))
  · rfl
theorem judged_run (hT : Tie t) (hC : HasC C) (hI : ThingOkC C f_is_thing t) {x : Nat} {u : List Nat} (h : Rnd t x u) : runFn G C B_judged_round [tieT t, .tup (nums (x :: u))] = .ok (.bl true) true [] := by
  have h6 := h.six hT
  have all := all_things (C := C) (F := B_is_thing) (f := f_is_thing) (k := 2) (v := 1) (row := x :: u) (s := [some (tieT t, .sh), some (.tup (nums (x :: u)), .sh), none, none]) rfl rfl hI h.lt (by omega) rfl rfl rfl (by omega) (by simp)
  have c1 : Ev G C (.or (.op1 .notO (.op1 (.isK .tuple) (.var 1))) (.or (.op2 .eq (.op1 .len (.var 1)) (.con (.int 0))) (.op1 .notO (.op1 .all (.lc (.nm 2) (.var 1) [] (.call f_is_thing [(.var 0), (.var 2)]) [2]))))) [some (tieT t, .sh), some (.tup (nums (x :: u)), .sh), none, none] (.bl false) true [some (tieT t, .sh), some (.tup (nums (x :: u)), .sh), none, none] :=
    or_ff (not_t rfl (Ev.one rfl (Ev.var rfl Lf.nums) V1.isTup)) (or_ff (to_f (Ev.two rfl rfl (Ev.one rfl (Ev.var rfl Lf.nums) V1.lenN) Ev.con V2.eqI) (by rw [decide_eq_false_iff_not, List.length_cons]; omega)) (not_t rfl all))
  have c2 : Ev G C (.op2 .ne (.op1 .lenSet (.var 1)) (.op1 .len (.var 1))) [some (tieT t, .sh), some (.tup (nums (x :: u)), .sh), none, none] (.bl false) true [some (tieT t, .sh), some (.tup (nums (x :: u)), .sh), none, none] :=
    to_f (Ev.two rfl rfl (Ev.one rfl (Ev.var rfl Lf.nums) (V1.lenSet' h.nd (by omega))) (Ev.one rfl (Ev.var rfl Lf.nums) V1.lenN) V2.neN) (by simp)
  have fr : V2 .from (.tup (nums (x :: u))) (.int 1) (.tup (nums u)) := from1T (nums_lf u)
  have up : V2 .upto (.tup (nums (x :: u))) (.int 1) (.tup [.int x]) := ⟨by simp [o2, cutT, cut, sIx, nums], by simp [O2.rk, Rk.own, T.inner, T.lfL, T.lf]⟩
  have zp : V2 .zip (.tup (nums (x :: u))) (.tup (nums (u ++ [x]))) (.lst (zipT (nums (x :: u)) (nums (u ++ [x])))) := ⟨rfl, by
    show (T.lst (zipT (nums (x :: u)) (nums (u ++ [x])))).inner = true
    rw [T.inner, lfL_iff]
    intro p hp
    unfold zipT at hp
    obtain ⟨⟨c, d⟩, hq, rfl⟩ := List.mem_map.mp hp
    have h1 := lfL_iff.mp (nums_lf (x :: u)) c (List.of_mem_zip hq).1
    have h2 := lfL_iff.mp (nums_lf (u ++ [x])) d (List.of_mem_zip hq).2
    simp [T.lf, T.lfL, h1, h2]⟩
  have ez : Ev G C (.op2 .zip (.var 1) (.op2 .add (.op2 .from (.var 1) (.con (.int 1))) (.op2 .upto (.var 1) (.con (.int 1))))) [some (tieT t, .sh), some (.tup (nums (x :: u)), .sh), none, none] (.lst (zipT (nums (x :: u)) (nums (u ++ [x])))) true [some (tieT t, .sh), some (.tup (nums (x :: u)), .sh), none, none] :=
    Ev.two rfl rfl (Ev.var rfl Lf.nums) (Ev.two rfl rfl (Ev.two rfl rfl (Ev.var rfl Lf.nums) Ev.con fr) (Ev.two rfl rfl (Ev.var rfl Lf.nums) Ev.con up) (add_one (by rw [List.length_cons] at h6; omega))) zp
  have q := ev_all (G := G) (C := C) (t := .tp [2, 3]) (elt := .call f_has [(.op2 .idx (.var 0) (.var 2)), (.var 3)]) (own := [2, 3]) (p := fun _ => true) (xs := zipT (nums (x :: u)) (nums (u ++ [x]))) (ag_of rfl ez.h) rfl rfl (fun z hz => by
    unfold zipT at hz
    obtain ⟨⟨c, d⟩, hq, rfl⟩ := List.mem_map.mp hz
    have hq2 : (c, d) ∈ ((x :: u).zip (u ++ [x])).map (fun p : Nat × Nat => ((T.int p.1, T.int p.2) : T × T)) := by
      unfold nums at hq
      rw [List.zip_map] at hq
      obtain ⟨p, hp, e⟩ := List.mem_map.mp hq
      exact List.mem_map.mpr ⟨p, hp, e⟩
    obtain ⟨⟨a, b⟩, hab, e⟩ := List.mem_map.mp hq2
    cases e
    have hr := ch_zip u x h.ch (a, b) hab
    have hat := (hT.r_lt hr).1
    refine ⟨[some (tieT t, .sh), some (.tup (nums (x :: u)), .sh), some (.int a, .sh), some (.int b, .sh)], rfl, ?_, rfl⟩
    have e := Ev.call2 (G := G) (C := C) (F := B_has) (f := f_has) (a := .op2 .idx (.var 0) (.var 2)) (b := .var 3) (s := [some (tieT t, .sh), some (.tup (nums (x :: u)), .sh), some (.int a, .sh), some (.int b, .sh)]) rfl rfl rfl rfl (Ev.two rfl rfl (Ev.var rfl lfT) (Ev.var rfl Lf.int) (idT hat)) (Ev.var rfl Lf.int) (hC _ _)
    have hr' : (rowN t a).testBit b = true := hr
    rw [hr'] at e
    exact e.h) (by
    unfold zipT
    rw [List.length_map, List.length_zip, nums_len, nums_len]
    unfold LIM; omega)
  have q : Ev G C (.op1 .all (.lc (.tp [2, 3]) (.op2 .zip (.var 1) (.op2 .add (.op2 .from (.var 1) (.con (.int 1))) (.op2 .upto (.var 1) (.con (.int 1))))) [] (.call f_has [(.op2 .idx (.var 0) (.var 2)), (.var 3)]) [2, 3])) [some (tieT t, .sh), some (.tup (nums (x :: u)), .sh), none, none] (.bl true) true [some (tieT t, .sh), some (.tup (nums (x :: u)), .sh), none, none] := to_t ⟨q⟩ (by simp)
  apply run_s (F := B_judged_round) rfl (s0 := [some (tieT t, .sh), some (.tup (nums (x :: u)), .sh), none, none]) rfl
  · exact Sts.cons (St.skip c1 Tr.blF) (Sts.cons (St.skip c2 Tr.blF) (Sts.rt (St.ret q)))
  · rfl
theorem takes13_run {x : Nat} {u : List Nat} (h1 : Cv C f_check_tie [tieT t] .non true) (hJ : Cv C f_judged_round [tieT t, .tup (nums (x :: u))] (.bl true) true) : runFn G C B_takes_objection [tieT t, .tup [wd 13, .tup (nums (x :: u))]] = .ok (.bl true) true [] := by
  have h : 13 < 18 := by decide
  have lx : T.lfL [.tup (nums (x :: u))] = true := by simp [T.lfL, T.lf, nums_lf]
  have lv := lfTold (xs := [.tup (nums (x :: u))]) h lx
  have v1 : ∀ s : Sl, rd s 1 = some (.tup [wd 13, .tup (nums (x :: u))], .sh) → Ev G C (.var 1) s (.tup [wd 13, .tup (nums (x :: u))]) true s := fun s q => Ev.var q lv
  have i0 : ∀ s : Sl, rd s 1 = some (.tup [wd 13, .tup (nums (x :: u))], .sh) → Ev G C (.op2 .idx (.var 1) (.con (.int 0))) s (wd 13) true s := fun s q => Ev.two rfl rfl (v1 s q) Ev.con (idx0T (lf_n h))
  have mw : Mm (wd 13) (.tup (enc (List.range 18))) true := ⟨by rw [mem_tup h range18_lt]; simp⟩
  have cond : Ev G C (.or (.op1 .notO (.op1 (.isK .tuple) (.var 1))) (.or (.op2 .lt (.op1 .len (.var 1)) (.con (.int 2))) (.or (.op1 .notO (.op1 (.isK .str) (.op2 .idx (.var 1) (.con (.int 0))))) (.op2 .nmem (.op2 .idx (.var 1) (.con (.int 0))) (.gl g_WORDS))))) [some (tieT t, .sh), some (.tup [wd 13, .tup (nums (x :: u))], .sh), none, none, none] (.bl false) true [some (tieT t, .sh), some (.tup [wd 13, .tup (nums (x :: u))], .sh), none, none, none] :=
    or_ff (not_t rfl (Ev.one rfl (v1 _ rfl) V1.isTup)) (or_ff (to_f (Ev.two rfl rfl (Ev.one rfl (v1 _ rfl) lenT1) Ev.con V2.lt) (by simp))
      (or_ff (not_t rfl (Ev.one rfl (i0 _ rfl) (V1.isStr h))) (to_f (Ev.two rfl rfl (i0 _ rfl) glW (V2.nmem mw)) rfl)))
  have s1 : St G C (.par [(2, false), (3, false)] [(.op2 .idx (.var 1) (.con (.int 0))), (.op2 .from (.var 1) (.con (.int 1)))]) [some (tieT t, .sh), some (.tup [wd 13, .tup (nums (x :: u))], .sh), none, none, none] (.nx [some (tieT t, .sh), some (.tup [wd 13, .tup (nums (x :: u))], .sh), some (wd 13, .sh), some (.tup [.tup (nums (x :: u))], .sh), none]) :=
    St.par2 (i0 _ rfl) (Ev.two rfl rfl (v1 _ rfl) Ev.con (from1T lx)) rfl
  have l3 : Lf (.tup [.tup (nums (x :: u))]) := ⟨by rw [T.lf]; exact lx⟩
  have e1 : Ev G C (.op2 .eq (.op1 .len (.var 3)) (.con (.int 1))) [some (tieT t, .sh), some (.tup [wd 13, .tup (nums (x :: u))], .sh), some (wd 13, .sh), some (.tup [.tup (nums (x :: u))], .sh), none] (.bl true) true [some (tieT t, .sh), some (.tup [wd 13, .tup (nums (x :: u))], .sh), some (wd 13, .sh), some (.tup [.tup (nums (x :: u))], .sh), none] :=
    to_t (Ev.two rfl rfl (Ev.one rfl (Ev.var rfl l3) lenT1) Ev.con V2.eqI) (by simp)
  have e2 : Ev G C (.call f_judged_round [(.var 0), (.op2 .idx (.var 3) (.con (.int 0)))]) [some (tieT t, .sh), some (.tup [wd 13, .tup (nums (x :: u))], .sh), some (wd 13, .sh), some (.tup [.tup (nums (x :: u))], .sh), none] (.bl true) true [some (tieT t, .sh), some (.tup [wd 13, .tup (nums (x :: u))], .sh), some (wd 13, .sh), some (.tup [.tup (nums (x :: u))], .sh), none] :=
    Ev.call2 (F := B_judged_round) rfl rfl rfl rfl (Ev.var rfl lfT) (Ev.two rfl rfl (Ev.var rfl l3) Ev.con (idx0T (by rw [T.lf]; exact nums_lf _))) hJ
  apply run_s (F := B_takes_objection) rfl (s0 := [some (tieT t, .sh), some (.tup [wd 13, .tup (nums (x :: u))], .sh), none, none, none]) rfl
  · exact Sts.cons (St.drop (Ev.call1 (F := B_check_tie) rfl rfl rfl (Ev.var rfl lfT) h1)) (Sts.cons (St.skip cond Tr.blF) (Sts.cons s1 (Sts.rt (St.iffT (Ev.two rfl rfl (Ev.var rfl (Lf.wd h)) Ev.con (q13 h)) Tr.blT (Sts.rt (St.ret (Ev.and e1 e2)))))))
  · rfl
theorem right13_run (hT : Tie t) (hC : LHasC C t) (hI : ThingOkC C f_law_thing t) (hW : WordsC C) {x : Nat} {u : List Nat} (h : Rnd t x u) : runFn G C B_law_right [tieT t, .tup [wd 13, .tup (nums (x :: u))]] = .ok (.bl true) true [] := by
  have h13 : 13 < 18 := by decide
  have h6 := h.six hT
  have lx : T.lfL [.tup (nums (x :: u))] = true := by simp [T.lfL, T.lf, nums_lf]
  have lv := lfTold (xs := [.tup (nums (x :: u))]) h13 lx
  have v1 : ∀ s : Sl, rd s 1 = some (.tup [wd 13, .tup (nums (x :: u))], .sh) → Ev G C (.var 1) s (.tup [wd 13, .tup (nums (x :: u))]) true s := fun s q => Ev.var q lv
  have i0 : ∀ s : Sl, rd s 1 = some (.tup [wd 13, .tup (nums (x :: u))], .sh) → Ev G C (.op2 .idx (.var 1) (.con (.int 0))) s (wd 13) true s := fun s q => Ev.two rfl rfl (v1 s q) Ev.con (idx0T (lf_n h13))
  have mw : Mm (wd 13) (.lst (enc (List.range 18))) true := ⟨by rw [mem_lst h13 range18_lt]; simp⟩
  have cond : Ev G C (.or (.op1 .notO (.op1 (.isK .tuple) (.var 1))) (.or (.op2 .lt (.op1 .len (.var 1)) (.con (.int 2))) (.or (.op1 .notO (.op1 (.isK .str) (.op2 .idx (.var 1) (.con (.int 0))))) (.op2 .nmem (.op2 .idx (.var 1) (.con (.int 0))) (.call f_law_words []))))) [some (tieT t, .sh), some (.tup [wd 13, .tup (nums (x :: u))], .sh), none, none, none, none, none] (.bl false) true [some (tieT t, .sh), some (.tup [wd 13, .tup (nums (x :: u))], .sh), none, none, none, none, none] :=
    or_ff (not_t rfl (Ev.one rfl (v1 _ rfl) V1.isTup)) (or_ff (to_f (Ev.two rfl rfl (Ev.one rfl (v1 _ rfl) lenT1) Ev.con V2.lt) (by simp))
      (or_ff (not_t rfl (Ev.one rfl (i0 _ rfl) (V1.isStr h13))) (to_f (Ev.two rfl rfl (i0 _ rfl) (Ev.call0 (F := B_law_words) rfl rfl hW) (V2.nmem mw)) rfl)))
  have s1 : St G C (.par [(2, false), (3, false)] [(.op2 .idx (.var 1) (.con (.int 0))), (.op2 .from (.var 1) (.con (.int 1)))]) [some (tieT t, .sh), some (.tup [wd 13, .tup (nums (x :: u))], .sh), none, none, none, none, none] (.nx [some (tieT t, .sh), some (.tup [wd 13, .tup (nums (x :: u))], .sh), some (wd 13, .sh), some (.tup [.tup (nums (x :: u))], .sh), none, none, none]) :=
    St.par2 (i0 _ rfl) (Ev.two rfl rfl (v1 _ rfl) Ev.con (from1T lx)) rfl
  have l3 : Lf (.tup [.tup (nums (x :: u))]) := ⟨by rw [T.lf]; exact lx⟩
  have s2 : St G C (.set 4 (.op2 .idx (.var 3) (.con (.int 0)))) [some (tieT t, .sh), some (.tup [wd 13, .tup (nums (x :: u))], .sh), some (wd 13, .sh), some (.tup [.tup (nums (x :: u))], .sh), none, none, none] (.nx [some (tieT t, .sh), some (.tup [wd 13, .tup (nums (x :: u))], .sh), some (wd 13, .sh), some (.tup [.tup (nums (x :: u))], .sh), some (.tup (nums (x :: u)), .sh), none, none]) :=
    St.set (Ev.two rfl rfl (Ev.var rfl l3) Ev.con (idx0T (by rw [T.lf]; exact nums_lf _)))
  have all := all_things (C := C) (F := B_law_thing) (f := f_law_thing) (k := 5) (v := 4) (row := x :: u) (s := [some (tieT t, .sh), some (.tup [wd 13, .tup (nums (x :: u))], .sh), some (wd 13, .sh), some (.tup [.tup (nums (x :: u))], .sh), some (.tup (nums (x :: u)), .sh), none, none]) rfl rfl hI h.lt (by omega) rfl rfl rfl (by omega) (by simp)
  have eq0 : V2 .eq (.tup (nums (x :: u))) (.tup []) (.bl false) := ⟨by
    have e : (T.tup (nums (x :: u))).pd 60 = true := by rw [T.pd]; exact nums_pd _
    have e2 : (T.tup []).pd 60 = true := by simp [T.pd, T.pdL]
    have e3 : (T.tup (nums (x :: u))).eq (.tup []) = false := by simp [T.eq, nums, T.eqL]
    simp only [o2, M.eqT, e, e2, e3, Bool.and_self, if_true], rfl⟩
  have c2 : Ev G C (.or (.op2 .ne (.op1 .len (.var 3)) (.con (.int 1))) (.or (.op1 .notO (.op1 (.isK .tuple) (.var 4))) (.or (.op2 .eq (.var 4) (.tup [])) (.op1 .notO (.op1 .all (.lc (.nm 5) (.var 4) [] (.call f_law_thing [(.var 0), (.var 5)]) [5])))))) [some (tieT t, .sh), some (.tup [wd 13, .tup (nums (x :: u))], .sh), some (wd 13, .sh), some (.tup [.tup (nums (x :: u))], .sh), some (.tup (nums (x :: u)), .sh), none, none] (.bl false) true [some (tieT t, .sh), some (.tup [wd 13, .tup (nums (x :: u))], .sh), some (wd 13, .sh), some (.tup [.tup (nums (x :: u))], .sh), some (.tup (nums (x :: u)), .sh), none, none] :=
    or_ff (to_f (Ev.two rfl rfl (Ev.one rfl (Ev.var rfl l3) lenT1) Ev.con (V2.neN (x := _) (y := 1))) (by simp)) (or_ff (not_t rfl (Ev.one rfl (Ev.var rfl Lf.nums) V1.isTup)) (or_ff (Ev.two rfl rfl (Ev.var rfl Lf.nums) Ev.tup0 eq0) (not_t rfl all)))
  have e1 : Ev G C (.op2 .eq (.op1 .lenSet (.var 4)) (.op1 .len (.var 4))) [some (tieT t, .sh), some (.tup [wd 13, .tup (nums (x :: u))], .sh), some (wd 13, .sh), some (.tup [.tup (nums (x :: u))], .sh), some (.tup (nums (x :: u)), .sh), none, none] (.bl true) true [some (tieT t, .sh), some (.tup [wd 13, .tup (nums (x :: u))], .sh), some (wd 13, .sh), some (.tup [.tup (nums (x :: u))], .sh), some (.tup (nums (x :: u)), .sh), none, none] :=
    to_t (Ev.two rfl rfl (Ev.one rfl (Ev.var rfl Lf.nums) (V1.lenSet' h.nd (by omega))) (Ev.one rfl (Ev.var rfl Lf.nums) V1.lenN) V2.eqN) (by simp)
  have rg : Ev G C (.op1 .rng (.op1 .len (.var 4))) [some (tieT t, .sh), some (.tup [wd 13, .tup (nums (x :: u))], .sh), some (wd 13, .sh), some (.tup [.tup (nums (x :: u))], .sh), some (.tup (nums (x :: u)), .sh), none, none] (.lst (nums (List.range (x :: u).length))) true [some (tieT t, .sh), some (.tup [wd 13, .tup (nums (x :: u))], .sh), some (wd 13, .sh), some (.tup [.tup (nums (x :: u))], .sh), some (.tup (nums (x :: u)), .sh), none, none] :=
    Ev.one rfl (Ev.one rfl (Ev.var rfl Lf.nums) V1.lenN) (V1.rng (by omega))
  have q := ev_all (G := G) (C := C) (t := .nm 6) (elt := .call f_law_has [(.var 0), (.op2 .idx (.var 4) (.op2 .sub (.var 6) (.con (.int 1)))), (.op2 .idx (.var 4) (.var 6))]) (own := [6]) (p := fun _ => true) (xs := nums (List.range (x :: u).length)) (ag_of rfl rg.h) rfl rfl (fun z hz => by
    obtain ⟨k, hk, rfl⟩ := List.mem_map.mp hz
    obtain ⟨a, b, hb, ia, hr⟩ := h.at_ (List.mem_range.mp hk)
    refine ⟨[some (tieT t, .sh), some (.tup [wd 13, .tup (nums (x :: u))], .sh), some (wd 13, .sh), some (.tup [.tup (nums (x :: u))], .sh), some (.tup (nums (x :: u)), .sh), none, some (.int k, .sh)], rfl, ?_, rfl⟩
    have hc := hC a b (hT.r_lt hr).1
    rw [hr] at hc
    have sb : V2 .sub (.int k) (.int 1) (.int ((k : Int) - 1)) := ⟨rfl, rfl⟩
    exact (Ev.call3 (G := G) (C := C) (F := B_law_has) (s := [some (tieT t, .sh), some (.tup [wd 13, .tup (nums (x :: u))], .sh), some (wd 13, .sh), some (.tup [.tup (nums (x :: u))], .sh), some (.tup (nums (x :: u)), .sh), none, some (.int k, .sh)]) rfl rfl rfl rfl rfl (Ev.var rfl lfT) (Ev.two rfl rfl (Ev.var rfl Lf.nums) (Ev.two rfl rfl (Ev.var rfl Lf.int) Ev.con sb) ia) (Ev.two rfl rfl (Ev.var rfl Lf.nums) (Ev.var rfl Lf.int) (V2.idxN hb)) hc).h) (by rw [nums_len, List.length_range]; unfold LIM; omega)
  have q : Ev G C (.op1 .all (.lc (.nm 6) (.op1 .rng (.op1 .len (.var 4))) [] (.call f_law_has [(.var 0), (.op2 .idx (.var 4) (.op2 .sub (.var 6) (.con (.int 1)))), (.op2 .idx (.var 4) (.var 6))]) [6])) [some (tieT t, .sh), some (.tup [wd 13, .tup (nums (x :: u))], .sh), some (wd 13, .sh), some (.tup [.tup (nums (x :: u))], .sh), some (.tup (nums (x :: u)), .sh), none, none] (.bl true) true [some (tieT t, .sh), some (.tup [wd 13, .tup (nums (x :: u))], .sh), some (wd 13, .sh), some (.tup [.tup (nums (x :: u))], .sh), some (.tup (nums (x :: u)), .sh), none, none] := to_t ⟨q⟩ (by simp)
  apply run_s (F := B_law_right) rfl (s0 := [some (tieT t, .sh), some (.tup [wd 13, .tup (nums (x :: u))], .sh), none, none, none, none, none]) rfl
  · exact Sts.cons (St.skip cond Tr.blF) (Sts.cons s1 (Sts.rt (St.iffT (Ev.two rfl rfl (Ev.var rfl (Lf.wd h13)) Ev.con (q13 h13)) Tr.blT (Sts.cons s2 (Sts.cons (St.skip c2 Tr.blF) (Sts.rt (St.ret (Ev.and e1 q))))))))
  · rfl
end

local macro_rules | `(tactic| walk_at "lfgo") => `(tactic| first | exact Lf.int | exact Lf.bl | exact Lf.nums | exact lfT | exact Lf.non | exact Lf.str | exact Lf.wd (by first | decide | assumption) | assumption)
local macro_rules | `(tactic| walk_at "trT") => `(tactic| first | exact Tr.blT | (apply Tr.of; decide) | (apply Tr.of; rfl) | (apply Tr.of; simp only [*]; done) | (apply Tr.of; simp only [*]; rfl) | fail)
local macro_rules | `(tactic| walk_at "trF") => `(tactic| first | exact Tr.blF | (apply Tr.of; decide) | (apply Tr.of; rfl) | (apply Tr.of; simp only [*]; done) | (apply Tr.of; simp only [*]; rfl) | fail)
local macro_rules | `(tactic| walk_at "vgo") => `(tactic| first | exact V2.eqN | exact V2.eqI | exact V2.neN | exact V2.eqB | exact V2.neB | exact idT (by assumption) | exact ix0 | exact ix1 | exact ix2 | exact ixL rfl | exact V1.neg1 | exact V2.lt | exact V2.le | exact V2.gt | exact V2.ge | exact V1.lenN | exact V1.lenNl | exact V1.isTup | exact V1.isInt | exact V1.isBoolI | exact V1.isBoolB | exact V1.isNn | exact V1.isNt | exact V1.notNn | exact V1.notNt | exact V1.isStr (by first | decide | assumption) | exact Mm.nm | exact Mm.nmt | exact q0 (by decide) | exact q1 (by decide) | exact q2 (by decide) | exact q3 (by decide) | exact q4 (by decide) | exact q5 (by decide) | exact q6 (by decide) | exact q7 (by decide) | exact q8 (by decide) | exact q9 (by decide) | exact q10 (by decide) | exact q11 (by decide) | exact q12 (by decide) | exact q13 (by decide) | exact q14 (by decide) | exact q15 (by decide) | exact q16 (by decide) | exact q17 (by decide) | exact r_tup_asym_anti (by decide) | exact r_tup_total_conn (by decide) | exact r_tup_refl_irr_serial_inv (by decide) | exact r_lst_refl_irr_serial_inv (by decide) | exact r_lst_trans_neg_eucl_func (by decide) | exact r_lst_refl_irr (by decide) | exact r_lst_sym_asym (by decide) | exact r_lst_anti_conn (by decide) | exact r_lst_total_full (by decide) | exact r_lst_ident_one (by decide) | apply V2.mem | apply V2.nmem | fail)
local macro_rules | `(tactic| walk_at "ev1") => `(tactic| first | exact Ev.con | assumption | exact Ev.var rfl (by walk_at "lfgo") | exact Ev.varL rfl | apply Ev.and | apply Ev.or | apply Ev.chain | apply Ev.not rfl | apply Ev.call1 rfl rfl rfl | apply Ev.call2 rfl rfl rfl rfl | apply Ev.call3 rfl rfl rfl rfl rfl | apply Ev.call4 rfl rfl rfl rfl rfl rfl | apply Ev.call5 rfl rfl rfl rfl rfl rfl rfl | apply Ev.call0 rfl rfl | walk_at "ite" | apply Ev.one rfl | apply Ev.two rfl rfl | exact Ev.tup0 | exact Ev.lst0 | apply Ev.tup1 | apply Ev.tup2 | apply Ev.tup4 | apply Ev.lst2 | apply Ev.lst3 | apply Ev.lst4 | walk_at "vgo" | apply_assumption | fail)
local macro_rules | `(tactic| walk_at "evgo") => `(tactic| repeat' (walk_at "ev1"))
local macro_rules | `(tactic| walk_at "ite") => `(tactic| first | (apply Ev.iteT; (· walk_at "evgo"); (· walk_at "trT")) | (apply Ev.iteF; (· walk_at "evgo"); (· walk_at "trF")) | fail)
local macro_rules | `(tactic| walk_at "st1") => `(tactic| first | exact Sts.nil | (apply Sts.rt; apply St.ret; walk_at "evgo") | (apply Sts.cons; (· (apply St.skip; (· walk_at "evgo"); (· walk_at "trF")))) | (apply Sts.rt; apply St.iffT; (· walk_at "evgo"); (· walk_at "trT")) | (apply Sts.cons; (· (apply St.set; (· walk_at "evgo")))) | (apply Sts.cons; (· (apply St.par2; (· walk_at "evgo"); (· walk_at "evgo"); (· rfl)))) | (apply Sts.cons; (· (apply St.unp; (· walk_at "evgo"); (· rfl)))) | fail)
local macro_rules | `(tactic| walk_at "stgo") => `(tactic| repeat' (walk_at "st1"))
/-! ### draws -/
def Dr (cells : List Int) (D : T) : Prop := ∃ i r s : Int, -1 ≤ i ∧ D = DrT cells i r s
def TakeC (C : Nat → List T → CR) (cells : List Int) : Prop := ∀ (D : T) (m : Nat), Dr cells D → 0 < m → m < 1073741824 → ∃ (k : Nat) (D' : T), Dr cells D' ∧ k < m ∧ C f_law_take [D, .int m] = .ok (.int k) true [D']
section
variable {C : Nat → List T → CR} {cells : List Int}
theorem take_call {s : Sl} {D : T} {m k : Nat} {D' : T} {e : E} {w : Bool} (he : e.asBrw = none) (hr : rd s 0 = some (D, .ow)) (h : Ev G C e s (.int m) w s) (hc : C f_law_take [D, .int m] = .ok (.int k) true [D']) : Ev G C (.call f_law_take [(.brw 0), e]) s (.int k) true (put s 0 D' .ow) := ⟨by
  have hT : G.fns[f_law_take]? = some B_law_take := rfl
  rw [ev]
  simp [evas, ag, E.asBrw, hr, Rv.bind]
  have h' := h.h
  cases e <;> simp [E.asBrw] at he <;> simp [h', Rv.bind, hT, callR, bindA, hr, B_law_take, ioOf, roOf, apart, putIo, hc]⟩
theorem Ev.take (hC : TakeC C cells) {s : Sl} {D : T} {m : Nat} {e : E} {w : Bool} (he : e.asBrw = none) (hr : rd s 0 = some (D, .ow)) (hD : Dr cells D) (h : Ev G C e s (.int m) w s) (h0 : 0 < m) (h1 : m < 1073741824) : ∃ (k : Nat) (D' : T), Dr cells D' ∧ k < m ∧ Ev G C (.call f_law_take [(.brw 0), e]) s (.int k) true (put s 0 D' .ow) := by
  obtain ⟨k, D', q1, q2, q3⟩ := hC D m hD h0 h1
  exact ⟨k, D', q1, q2, take_call he hr h q3⟩
/-- a comprehension whose turns may change more -/
theorem ev_lcX {tg : Tg} {it elt : E} {cs : List E} {own : List Nat} {s s1 s' : Sl} {a : T} {o : Bool} {xs : List T} {ys : List (T × Bool)} (h1 : ag it (ev G C it s) s = .ok (.v a o) s1) (h2 : a.items = some xs) (h3 : mayHide s1 own = true)
    (hg : lcGo own tg (fun s3 => evc G C cs s3 fun s4 => (ev G C elt s4).bind fun y s5 => .ok [y] s5) xs (wipe s1 own) = .ok ys s') (hl : ys.length ≤ LIM) : ev G C (.lc tg it cs elt own) s = .ok (.lst (ys.map (·.1)), T.lfL (ys.map (·.1)) || ys.all (·.2)) (back s1 s' own) := by
  rw [ev, h1]
  simp only [Rv.bind, src, h2, Option.map_some]
  rw [if_pos h3]
  unfold Rv.bind at hg
  rw [hg]
  unfold lcOut
  simp only
  rw [if_pos hl]
  rfl
/-! _law_order -/
def stO (D : T) (n : Nat) (l o : List Nat) : Sl := [some (D, .ow), some (.int n, .sh), some (.lst (nums l), .ow), some (.lst (nums o), .ow)]
def orB : List S := [.app 3 (.pop 2 [(.call f_law_take [(.brw 0), (.op1 .len (.brw 2))])])]
theorem nums_erase : ∀ (l : List Nat) (k : Nat), (nums l).eraseIdx k = nums (l.eraseIdx k)
  | [], k => by simp [nums]
  | a :: l, 0 => rfl
  | a :: l, k + 1 => by
    show (.int a :: (nums l).eraseIdx k) = _
    rw [nums_erase l k]; rfl
theorem or_turn (hC : TakeC C cells) {D : T} (hD : Dr cells D) {n : Nat} {l o : List Nat} (hl : 0 < l.length) (hl2 : l.length ≤ 6) (ho : o.length ≤ 6) : ∃ D' k, ∃ hk : k < l.length, Dr cells D' ∧ Sts G C orB (stO D n l o) (.nx (stO D' n (l.eraseIdx k) (o ++ [l[k]]))) := by
  obtain ⟨k, D', d1, d2, d3⟩ := Ev.take hC (s := stO D n l o) (e := .op1 .len (.brw 2)) rfl rfl hD (Ev.oneb (.inl rfl) V1.lenNl) hl (by omega)
  refine ⟨D', k, d2, d1, ?_⟩
  have e1 : put (stO D n l o) 0 D' .ow = stO D' n l o := rfl
  rw [e1] at d3
  have ep : Ev G C (.pop 2 [(.call f_law_take [(.brw 0), (.op1 .len (.brw 2))])]) (stO D n l o) (.int l[k]) true (stO D' n (l.eraseIdx k) o) := ⟨by
    have hls : isLs (stO D n l o) 2 = true := rfl
    rw [ev, if_pos hls]
    simp only [evs, d3.h, Rv.bind]
    have hr : rd (stO D' n l o) 2 = some (.lst (nums l), .ow) := rfl
    have hx : ixN (nums l).length (k : Int) = some k := by
      unfold ixN
      rw [nums_len, if_pos (by omega), if_pos (by omega)]; rfl
    have hy : (nums l)[k]? = some (.int l[k]) := by
      unfold nums
      rw [List.getElem?_map, List.getElem?_eq_getElem d2]; rfl
    have hb : -RMAX ≤ (k : Int) ∧ (k : Int) ≤ RMAX := by unfold RMAX; omega
    simp only [popR, hr, if_pos hb, hx, hy, T.lf, if_true, nums_erase]
    rfl⟩
  have q : St G C (.app 3 (.pop 2 [(.call f_law_take [(.brw 0), (.op1 .len (.brw 2))])])) (stO D n l o) (.nx (stO D' n (l.eraseIdx k) (o ++ [l[k]]))) := ⟨by
    have hls : isLs (stO D n l o) 3 = true := rfl
    rw [ex1, if_pos hls, ep.h]
    have hr : rd (stO D' n (l.eraseIdx k) o) 3 = some (.lst (nums o), .ow) := rfl
    have hle : (nums o).length < LIM := by rw [nums_len]; unfold LIM; omega
    simp only [Rv.fl, appR, hr, hle, decide_true, Bool.and_self, if_true]
    simp [stO, put, nums]⟩
  exact Sts.cons q Sts.nil
theorem ne_nil {l : List Nat} : V2 .ne (.lst (nums l)) (.lst []) (.bl (!l.isEmpty)) := ⟨by
  have e : (T.lst (nums l)).pd 60 = true := by rw [T.pd]; exact nums_pd _
  have e2 : (T.lst []).pd 60 = true := by simp [T.pd, T.pdL]
  have e3 : (T.lst (nums l)).eq (.lst []) = l.isEmpty := by cases l <;> simp [T.eq, nums, T.eqL]
  simp only [o2, M.neT, e, e2, e3, Bool.and_self, if_true], rfl⟩
theorem or_go (hC : TakeC C cells) {n : Nat} (hn : n ≤ 6) : ∀ (k : Nat) (D : T) (l o : List Nat), Dr cells D → l.length + o.length = n → (∀ a ∈ l, a < n) → (∀ a ∈ o, a < n) → l.length < k →
    ∃ D' o', whGo (fun s => ev G C (.op2 .ne (.brw 2) (.lst [])) s) (fun s => exs G C orB s) k (stO D n l o) = .nx (stO D' n [] o') ∧ Dr cells D' ∧ o'.length = n ∧ ∀ a ∈ o', a < n
  | 0, D, l, o, _, _, _, _, hk => by omega
  | k + 1, D, l, o, hD, hlen, ha, hb, hk => by
    have et : Ev G C (.op2 .ne (.brw 2) (.lst [])) (stO D n l o) (.bl (!l.isEmpty)) true (stO D n l o) := Ev.twoa rfl (.inl rfl) Ev.lst0 ne_nil
    rw [whGo, et.h]
    cases hl : l with
    | nil =>
      subst hl
      exact ⟨D, o, by simp [Rv.fl, T.tr], hD, by simpa using hlen, hb⟩
    | cons a r =>
      rw [← hl]
      have h0 : 0 < l.length := by rw [hl]; simp
      have e : (!l.isEmpty) = true := by rw [hl]; rfl
      rw [e]
      simp only [Rv.fl, T.tr]
      obtain ⟨D', j, hj, d1, d2⟩ := or_turn (C := C) hC hD (n := n) (l := l) (o := o) h0 (by omega) (by omega)
      rw [d2.h]
      have hle := List.length_eraseIdx_of_lt hj
      exact or_go hC hn k D' _ _ d1 (by rw [hle, List.length_append]; simp; omega) (fun b hb2 => ha b (List.mem_of_mem_eraseIdx hb2)) (fun b hb2 => by
        rcases List.mem_append.mp hb2 with q | q
        · exact hb b q
        · rw [List.mem_singleton.mp q]; exact ha _ (List.getElem_mem hj)) (by rw [hle]; omega)
theorem order_run (hC : TakeC C cells) {D : T} (hD : Dr cells D) {n : Nat} (hn : n ≤ 6) : ∃ D' o, Dr cells D' ∧ o.length = n ∧ runFn G C B_law_order [D, .int n] = .ok (.lst (nums o)) true [D'] := by
  obtain ⟨k, hk⟩ := wf_8
  obtain ⟨D', o, q1, q2, q3, q4⟩ := or_go (C := C) hC hn (k + 8) D (List.range n) [] hD (by simp) (fun a ha => List.mem_range.mp ha) (by simp) (by simp; omega)
  refine ⟨D', o, q2, q3, ?_⟩
  have lr : V1 .lrg (.int n) (.lst (nums (List.range n))) := ⟨by
    have e : -RMAX ≤ (n : Int) ∧ (n : Int) ≤ LIM := by unfold RMAX LIM; omega
    simp only [o1, e, and_self, if_true, rangeL_nums], rfl⟩
  have s1 : St G C (.par [(2, true), (3, true)] [(.op1 .lrg (.var 1)), (.lst [])]) [some (D, .ow), some (.int n, .sh), none, none] (.nx (stO D n (List.range n) [])) := St.par2 (Ev.one rfl (Ev.var rfl Lf.int) lr) Ev.lst0 rfl
  apply run_s (F := B_law_order) rfl (s0 := [some (D, .ow), some (.int n, .sh), none, none]) rfl
  · exact Sts.cons s1 (Sts.cons ⟨by rw [ex1, hk]; exact q1⟩ (Sts.rt (St.ret ⟨movE rfl⟩)))
  · rfl
/-! _law_styled -/
def OrderC (C : Nat → List T → CR) (cells : List Int) : Prop := ∀ (D : T) (n : Nat), Dr cells D → n ≤ 6 → ∃ D' o, Dr cells D' ∧ o.length = n ∧ C f_law_order [D, .int n] = .ok (.lst (nums o)) true [D']
def blsT (r : List Bool) : T := .lst (r.map T.bl)
def stS (D : T) (k n : Nat) (lv od : List Nat) (th : Nat) (fd : Option (T × Ow)) (x row y an : Option (T × Ow)) : Sl := [some (D, .ow), some (.int k, .sh), some (.int n, .sh), some (.lst (nums lv), .sh), some (.lst (nums od), .sh), some (.int th, .sh), fd, x, row, y, an]
def cellB : List S := [.set 10 (.op2 .lt (.call f_law_take [(.brw 0), (.con (.int 4))]) (.var 5)),
         .iff (.op2 .mem (.var 1) (.lst [(.con (.int 1)), (.con (.int 2)), (.con (.int 3))]))
           [.app 8 (.op2 .idx (.lst [(.op2 .gt (.op2 .idx (.var 3) (.var 7)) (.op2 .idx (.var 3) (.var 9))), (.op2 .ge (.op2 .idx (.var 3) (.var 7)) (.op2 .idx (.var 3) (.var 9))), (.op2 .gt (.op2 .idx (.var 3) (.var 7)) (.op2 .add (.op2 .idx (.var 3) (.var 9)) (.con (.int 1))))]) (.op2 .sub (.var 1) (.con (.int 1))))]
           [.iff (.op2 .eq (.var 1) (.con (.int 4)))
              [.app 8 (.op2 .eq (.op2 .idx (.var 3) (.var 7)) (.op2 .idx (.var 3) (.var 9)))]
              [.iff (.op2 .eq (.var 1) (.con (.int 5)))
                 [.app 8 (.or (.op2 .eq (.op2 .idx (.var 4) (.var 7)) (.var 9)) (.and (.op2 .eq (.var 5) (.con (.int 1))) (.op2 .eq (.var 7) (.var 9))))]
                 [.iff (.op2 .eq (.var 1) (.con (.int 6)))
                    [.app 8 (.or (.op2 .eq (.var 7) (.var 9)) (.and (.op2 .eq (.var 5) (.con (.int 1))) (.and (.var 10) (.op2 .lt (.op2 .idx (.var 4) (.var 7)) (.op2 .idx (.var 4) (.var 9))))))]
                    [.iff (.op2 .eq (.var 1) (.con (.int 7)))
                       [.app 8 (.and (.op2 .lt (.op2 .idx (.var 4) (.var 7)) (.op2 .idx (.var 4) (.var 9))) (.or (.var 10) (.op2 .gt (.var 5) (.con (.int 1)))))]
                       [.app 8 (.var 10)]]]]]]
theorem cell_ok (hC : TakeC C cells) {D : T} (hD : Dr cells D) {k n th x y : Nat} {lv od : List Nat} {fd an : Option (T × Ow)} {row : List Bool} (hlv : lv.length = n) (hod : od.length = n) (hx : x < n) (hy : y < n) (hr : row.length ≤ 6) :
    ∃ D' b an', Dr cells D' ∧ Sts G C cellB (stS D k n lv od th fd (some (.int x, .sh)) (some (blsT row, .ow)) (some (.int y, .sh)) an) (.nx (stS D' k n lv od th fd (some (.int x, .sh)) (some (blsT (row ++ [b]), .ow)) (some (.int y, .sh)) an')) := by
  obtain ⟨v, D', d1, d2, d3⟩ := Ev.take hC (s := stS D k n lv od th fd (some (.int x, .sh)) (some (blsT row, .ow)) (some (.int y, .sh)) an) (e := .con (.int (4 : Nat))) rfl rfl hD Ev.con (by decide) (by decide)
  have e1 : put (stS D k n lv od th fd (some (.int x, .sh)) (some (blsT row, .ow)) (some (.int y, .sh)) an) 0 D' .ow = stS D' k n lv od th fd (some (.int x, .sh)) (some (blsT row, .ow)) (some (.int y, .sh)) an := rfl
  rw [e1] at d3
  let q : Bool := decide ((v : Int) < (th : Int))
  let s : Sl := stS D' k n lv od th fd (some (.int x, .sh)) (some (blsT row, .ow)) (some (.int y, .sh)) (some (.bl q, .sh))
  have s1 : St G C (.set 10 (.op2 .lt (.call f_law_take [(.brw 0), (.con (.int 4))]) (.var 5))) (stS D k n lv od th fd (some (.int x, .sh)) (some (blsT row, .ow)) (some (.int y, .sh)) an) (.nx s) := St.set (Ev.two rfl rfl d3 (Ev.var rfl Lf.int) V2.lt)
  have lx : Ev G C (.op2 .idx (.var 3) (.var 7)) s (.int (lv[x]'(by omega))) true s := Ev.two rfl rfl (Ev.varL rfl) (Ev.var rfl Lf.int) (V2.idxNl (List.getElem?_eq_getElem (by omega)))
  have ly : Ev G C (.op2 .idx (.var 3) (.var 9)) s (.int (lv[y]'(by omega))) true s := Ev.two rfl rfl (Ev.varL rfl) (Ev.var rfl Lf.int) (V2.idxNl (List.getElem?_eq_getElem (by omega)))
  have ox : Ev G C (.op2 .idx (.var 4) (.var 7)) s (.int (od[x]'(by omega))) true s := Ev.two rfl rfl (Ev.varL rfl) (Ev.var rfl Lf.int) (V2.idxNl (List.getElem?_eq_getElem (by omega)))
  have oy : Ev G C (.op2 .idx (.var 4) (.var 9)) s (.int (od[y]'(by omega))) true s := Ev.two rfl rfl (Ev.varL rfl) (Ev.var rfl Lf.int) (V2.idxNl (List.getElem?_eq_getElem (by omega)))
  have v7 : Ev G C (.var 7) s (.int x) true s := Ev.var rfl Lf.int
  have v9 : Ev G C (.var 9) s (.int y) true s := Ev.var rfl Lf.int
  have v5 : Ev G C (.var 5) s (.int th) true s := Ev.var rfl Lf.int
  have v1 : Ev G C (.var 1) s (.int k) true s := Ev.var rfl Lf.int
  have v10 : Ev G C (.var 10) s (.bl q) true s := Ev.var rfl Lf.bl
  have ap : ∀ (e : E) (b : Bool), Ev G C e s (.bl b) true s → Sts G C [.app 8 e] s (.nx (stS D' k n lv od th fd (some (.int x, .sh)) (some (blsT (row ++ [b]), .ow)) (some (.int y, .sh)) (some (.bl q, .sh)))) := fun e b he => by
    have z := St.app' (C := C) (s := s) (i := 8) (e := e) (xs := row.map T.bl) (x := .bl b) rfl he (by rw [List.length_map]; unfold LIM; omega)
    have ez : put s 8 (.lst (row.map T.bl ++ [.bl b])) .ow = stS D' k n lv od th fd (some (.int x, .sh)) (some (blsT (row ++ [b]), .ow)) (some (.int y, .sh)) (some (.bl q, .sh)) := by
      simp [s, stS, put, blsT]
    rw [ez] at z
    exact Sts.cons z Sts.nil
  have fin : ∀ (b : Bool) (ks : List S), cellB = (.set 10 (.op2 .lt (.call f_law_take [(.brw 0), (.con (.int 4))]) (.var 5))) :: ks → Sts G C ks s (.nx (stS D' k n lv od th fd (some (.int x, .sh)) (some (blsT (row ++ [b]), .ow)) (some (.int y, .sh)) (some (.bl q, .sh)))) → ∃ D' b an', Dr cells D' ∧ Sts G C cellB (stS D k n lv od th fd (some (.int x, .sh)) (some (blsT row, .ow)) (some (.int y, .sh)) an) (.nx (stS D' k n lv od th fd (some (.int x, .sh)) (some (blsT (row ++ [b]), .ow)) (some (.int y, .sh)) an')) := fun b ks ek hs => ⟨D', b, _, d1, by rw [ek]; exact Sts.cons s1 hs⟩
  have m123 : Ev G C (.op2 .mem (.var 1) (.lst [(.con (.int 1)), (.con (.int 2)), (.con (.int 3))])) s (.bl (decide (k ∈ [1, 2, 3]))) true s := Ev.two rfl rfl v1 (Ev.lst3 Ev.con Ev.con Ev.con) (V2.mem (Mm.nm (y := k) (l := [1, 2, 3])))
  have eqk : ∀ m : Nat, Ev G C (.op2 .eq (.var 1) (.con (.int m))) s (.bl (decide (k = m))) true s := fun m => Ev.two rfl rfl v1 Ev.con V2.eqN
  by_cases h123 : k ∈ [1, 2, 3]
  · have t : Tr (.bl (decide (k ∈ [1, 2, 3]))) true := Tr.of (by simp only [h123, decide_true])
    have sb : V2 .sub (.int k) (.int 1) (.int ((k : Int) - 1)) := ⟨rfl, rfl⟩
    have ad : V2 .add (.int (lv[y]'(by omega))) (.int 1) (.int (((lv[y]'(by omega) : Nat) : Int) + 1)) := ⟨rfl, rfl⟩
    have ls := Ev.lst3 (Ev.two rfl rfl lx ly V2.gt) (Ev.two rfl rfl lx ly V2.ge) (Ev.two rfl rfl lx (Ev.two rfl rfl ly Ev.con ad) V2.gt)
    have ix : ∀ b0 b1 b2 : Bool, ∃ b, V2 .idx (.lst [.bl b0, .bl b1, .bl b2]) (.int ((k : Int) - 1)) (.bl b) := fun b0 b1 b2 => by
      simp only [List.mem_cons, List.not_mem_nil, or_false] at h123
      rcases h123 with e | e | e <;> subst e
      · exact ⟨b0, by simp [o2, idxT, ixN], by simp [O2.rk, Rk.own, T.lf]⟩
      · exact ⟨b1, by simp [o2, idxT, ixN], by simp [O2.rk, Rk.own, T.lf]⟩
      · exact ⟨b2, by simp [o2, idxT, ixN], by simp [O2.rk, Rk.own, T.lf]⟩
    obtain ⟨b, hb⟩ := ix _ _ _
    exact fin b _ rfl (Sts.cons (St.iffT m123 t (ap _ b (Ev.two rfl rfl ls (Ev.two rfl rfl v1 Ev.con sb) hb))) Sts.nil)
  · have t : Tr (.bl (decide (k ∈ [1, 2, 3]))) false := Tr.of (by simp only [h123, decide_false])
    by_cases h4 : k = 4
    · exact fin _ _ rfl (Sts.cons (St.iffF m123 t (Sts.cons (St.iffT (eqk 4) (Tr.of (by simp [h4])) (ap _ _ (Ev.two rfl rfl lx ly V2.eqN))) Sts.nil)) Sts.nil)
    · have t4 : Tr (.bl (decide (k = 4))) false := Tr.of (by simp [h4])
      by_cases h5 : k = 5
      · exact fin _ _ rfl (Sts.cons (St.iffF m123 t (Sts.cons (St.iffF (eqk 4) t4 (Sts.cons (St.iffT (eqk 5) (Tr.of (by simp [h5])) (ap _ _ (Ev.or (Ev.two rfl rfl ox v9 V2.eqN) (Ev.and (Ev.two rfl rfl v5 Ev.con V2.eqI) (Ev.two rfl rfl v7 v9 V2.eqN))))) Sts.nil)) Sts.nil)) Sts.nil)
      · have t5 : Tr (.bl (decide (k = 5))) false := Tr.of (by simp [h5])
        by_cases h6 : k = 6
        · exact fin _ _ rfl (Sts.cons (St.iffF m123 t (Sts.cons (St.iffF (eqk 4) t4 (Sts.cons (St.iffF (eqk 5) t5 (Sts.cons (St.iffT (eqk 6) (Tr.of (by simp [h6])) (ap _ _ (Ev.or (Ev.two rfl rfl v7 v9 V2.eqN) (Ev.and (Ev.two rfl rfl v5 Ev.con V2.eqI) (Ev.and v10 (Ev.two rfl rfl ox oy V2.lt)))))) Sts.nil)) Sts.nil)) Sts.nil)) Sts.nil)
        · have t6 : Tr (.bl (decide (k = 6))) false := Tr.of (by simp [h6])
          by_cases h7 : k = 7
          · exact fin _ _ rfl (Sts.cons (St.iffF m123 t (Sts.cons (St.iffF (eqk 4) t4 (Sts.cons (St.iffF (eqk 5) t5 (Sts.cons (St.iffF (eqk 6) t6 (Sts.cons (St.iffT (eqk 7) (Tr.of (by simp [h7])) (ap _ _ (Ev.and (Ev.two rfl rfl ox oy V2.lt) (Ev.or v10 (Ev.two rfl rfl v5 Ev.con V2.gt))))) Sts.nil)) Sts.nil)) Sts.nil)) Sts.nil)) Sts.nil)
          · have t7 : Tr (.bl (decide (k = 7))) false := Tr.of (by simp [h7])
            exact fin _ _ rfl (Sts.cons (St.iffF m123 t (Sts.cons (St.iffF (eqk 4) t4 (Sts.cons (St.iffF (eqk 5) t5 (Sts.cons (St.iffF (eqk 6) t6 (Sts.cons (St.iffF (eqk 7) t7 (ap _ _ v10)) Sts.nil)) Sts.nil)) Sts.nil)) Sts.nil)) Sts.nil)
def mxT (f : List (List Bool)) : T := .lst (f.map blsT)
def rowB : List S := [.own 8 (.lst []), .fr (.nm 9) (.op1 .rng (.var 2)) cellB, .app 6 (.mov 8)]
theorem row_go (hC : TakeC C cells) {k n th x : Nat} {lv od : List Nat} {fd : Option (T × Ow)} (hlv : lv.length = n) (hod : od.length = n) (hx : x < n) (hn : n ≤ 6) : ∀ (ys : List Nat) (D : T) (row : List Bool) (y an : Option (T × Ow)), Dr cells D → (∀ y ∈ ys, y < n) → row.length + ys.length ≤ 6 →
    ∃ D' row' y' an', forGo (.nm 9) none (fun s => exs G C cellB s) (nums ys) (stS D k n lv od th fd (some (.int x, .sh)) (some (blsT row, .ow)) y an) = .nx (stS D' k n lv od th fd (some (.int x, .sh)) (some (blsT row', .ow)) y' an') ∧ Dr cells D' ∧ row'.length = row.length + ys.length
  | [], D, row, y, an, hD, _, _ => ⟨D, row, y, an, rfl, hD, by simp⟩
  | v :: ys, D, row, y, an, hD, hy, hl => by
    rw [List.length_cons] at hl
    obtain ⟨D1, b, an1, d1, d2⟩ := cell_ok (C := C) hC hD (k := k) (th := th) (fd := fd) (an := an) hlv hod hx (hy v (by simp)) (row := row) (by omega)
    obtain ⟨D', row', y', an', q1, q2, q3⟩ := row_go hC (k := k) (th := th) (fd := fd) hlv hod hx hn ys D1 (row ++ [b]) (some (.int v, .sh)) an1 d1 (fun z hz => hy z (by simp [hz])) (by simp; omega)
    refine ⟨D', row', y', an', ?_, q2, by rw [q3]; simp; omega⟩
    show forGo _ none _ (.int v :: nums ys) _ = _
    rw [forGo]
    show (match exs G C cellB (stS D k n lv od th fd (some (.int x, .sh)) (some (blsT row, .ow)) (some (.int v, .sh)) an) with | .nx s2 => _ | r => r) = _
    rw [d2.h]
    exact q1
/-- n rows of n truths -/
structure Mx (n : Nat) (f : List (List Bool)) : Prop where
  ln : f.length = n
  rl : ∀ r ∈ f, r.length = n
theorem rows_goS (hC : TakeC C cells) {k n th : Nat} {lv od : List Nat} (hlv : lv.length = n) (hod : od.length = n) (hn : n ≤ 6) : ∀ (xs : List Nat) (D : T) (f : List (List Bool)) (x row y an : Option (T × Ow)), Dr cells D → (∀ x ∈ xs, x < n) → f.length + xs.length ≤ 6 → (∀ r ∈ f, r.length = n) →
    ∃ D' f' x' row' y' an', forGo (.nm 7) none (fun s => exs G C rowB s) (nums xs) (stS D k n lv od th (some (mxT f, .ow)) x row y an) = .nx (stS D' k n lv od th (some (mxT f', .ow)) x' row' y' an') ∧ Dr cells D' ∧ f'.length = f.length + xs.length ∧ ∀ r ∈ f', r.length = n
  | [], D, f, x, row, y, an, hD, _, _, hf => ⟨D, f, x, row, y, an, rfl, hD, by simp, hf⟩
  | v :: xs, D, f, x, row, y, an, hD, hx, hl, hf => by
    rw [List.length_cons] at hl
    obtain ⟨D1, r1, y1, an1, q1, q2, q3⟩ := row_go (C := C) hC (k := k) (th := th) (fd := some (mxT f, .ow)) hlv hod (hx v (by simp)) hn (List.range n) D [] y an hD (fun z hz => List.mem_range.mp hz) (by simp; omega)
    have hb : Sts G C rowB (stS D k n lv od th (some (mxT f, .ow)) (some (.int v, .sh)) row y an) (.nx (stS D1 k n lv od th (some (mxT (f ++ [r1]), .ow)) (some (.int v, .sh)) none y1 an1)) := by
      refine Sts.cons (St.own Ev.lst0) (Sts.cons ⟨x_fr1 rfl (rngE (C := C) (i := 2) (n := n) rfl (by omega)).h rfl q1⟩ (Sts.cons ?_ Sts.nil))
      have hle : (f.map blsT).length < LIM := by rw [List.length_map]; unfold LIM; omega
      have z := St.app' (C := C) (s := stS D1 k n lv od th (some (mxT f, .ow)) (some (.int v, .sh)) (some (blsT r1, .ow)) y1 an1) (i := 6) (e := .mov 8) (xs := f.map blsT) (x := blsT r1)
      exact ⟨by
        have hls : isLs (stS D1 k n lv od th (some (mxT f, .ow)) (some (.int v, .sh)) (some (blsT r1, .ow)) y1 an1) 6 = true := rfl
        have hm : ev G C (.mov 8) (stS D1 k n lv od th (some (mxT f, .ow)) (some (.int v, .sh)) (some (blsT r1, .ow)) y1 an1) = .ok (blsT r1, true) (stS D1 k n lv od th (some (mxT f, .ow)) (some (.int v, .sh)) none y1 an1) := movE rfl
        have hr : rd (stS D1 k n lv od th (some (mxT f, .ow)) (some (.int v, .sh)) none y1 an1) 6 = some (.lst (f.map blsT), .ow) := rfl
        rw [ex1, if_pos hls, hm]
        simp only [Rv.fl, appR, hr, hle, decide_true, Bool.and_self, if_true]
        simp [stS, put, mxT]⟩
    obtain ⟨D', f', x', row', y', an', p1, p2, p3, p4⟩ := rows_goS hC (k := k) (th := th) hlv hod hn xs D1 (f ++ [r1]) (some (.int v, .sh)) none y1 an1 q2 (fun z hz => hx z (by simp [hz])) (by simp; omega) (fun r hr => by
      rcases List.mem_append.mp hr with q | q
      · exact hf r q
      · rw [List.mem_singleton.mp q, q3]; simp)
    refine ⟨D', f', x', row', y', an', ?_, p2, by rw [p3]; simp; omega, p4⟩
    show forGo _ none _ (.int v :: nums xs) _ = _
    rw [forGo]
    show (match exs G C rowB (stS D k n lv od th (some (mxT f, .ow)) (some (.int v, .sh)) row y an) with | .nx s2 => _ | r => r) = _
    rw [hb.h]
    exact p1
theorem nums_of : ∀ ys : List (T × Bool), (∀ y ∈ ys, ∃ j : Nat, y = (.int j, true)) → ∃ l : List Nat, ys = l.map (fun (j : Nat) => (T.int j, true)) ∧ l.length = ys.length
  | [], _ => ⟨[], rfl, rfl⟩
  | y :: ys, h => by
    obtain ⟨j, e⟩ := h y (by simp)
    obtain ⟨l, q, q2⟩ := nums_of ys fun z hz => h z (by simp [hz])
    exact ⟨j :: l, by rw [e, q]; rfl, by simp [q2]⟩
theorem styled_run (hC : TakeC C cells) (hO : OrderC C cells) {D : T} (hD : Dr cells D) {k n : Nat} (h0 : 0 < n) (hn : n ≤ 6) : ∃ D' f, Dr cells D' ∧ Mx n f ∧ runFn G C B_law_styled [D, .int k, .int n] = .ok (mxT f) true [D'] := by
  -- level
  obtain ⟨ys, s', p1, ⟨D1, z7, hD1, rfl⟩, p3, p4⟩ := lcGo_inv (own := [7]) (tg := .nm 7) (body := fun s3 => evc G C [] s3 fun s4 => (ev G C (.call f_law_take [(.brw 0), (.var 2)]) s4).bind fun y s5 => .ok [y] s5)
    (fun s => ∃ D z, Dr cells D ∧ s = [some (D, .ow), some (.int k, .sh), some (.int n, .sh), none, none, none, none, z, none, none, none]) (fun y => ∃ j : Nat, y = (.int j, true)) (nums (List.range n)) [some (D, .ow), some (.int k, .sh), some (.int n, .sh), none, none, none, none, none, none, none, none] ⟨D, none, hD, rfl⟩ (by
    intro s x hs hx
    obtain ⟨D, z, hD, rfl⟩ := hs
    obtain ⟨v, D', d1, d2, d3⟩ := Ev.take hC (s := [some (D, .ow), some (.int k, .sh), some (.int n, .sh), none, none, none, none, some (x, .sh), none, none, none]) (e := .var 2) rfl rfl hD (Ev.var rfl Lf.int) h0 (by omega)
    refine ⟨[some (D, .ow), some (.int k, .sh), some (.int n, .sh), none, none, none, none, some (x, .sh), none, none, none], (.int v, true), [some (D', .ow), some (.int k, .sh), some (.int n, .sh), none, none, none, none, some (x, .sh), none, none, none], rfl, ?_, ⟨D', _, d1, rfl⟩, v, rfl⟩
    rw [evc, d3.h]
    rfl)
  obtain ⟨lv, el, hlen⟩ := nums_of ys p3
  have hlv : lv.length = n := by rw [hlen, p4, nums_len, List.length_range]
  have elv : ev G C (.lc (.nm 7) (.op1 .rng (.var 2)) [] (.call f_law_take [(.brw 0), (.var 2)]) [7]) [some (D, .ow), some (.int k, .sh), some (.int n, .sh), none, none, none, none, none, none, none, none] = .ok (.lst (nums lv), true) [some (D1, .ow), some (.int k, .sh), some (.int n, .sh), none, none, none, none, none, none, none, none] := by
    have hit := ag_of (G := G) (C := C) (c := .op1 .rng (.var 2)) rfl (rngE (C := C) (s := [some (D, .ow), some (.int k, .sh), some (.int n, .sh), none, none, none, none, none, none, none, none]) (i := 2) (n := n) rfl (by omega)).h
    have hle : ys.length ≤ LIM := by rw [p4, nums_len, List.length_range]; unfold LIM; omega
    have q := ev_lcX (C := C) (cs := []) (elt := .call f_law_take [(.brw 0), (.var 2)]) (tg := .nm 7) (own := [7]) hit rfl rfl p1 hle
    have e1 : ys.map (·.1) = nums lv := by rw [el, List.map_map]; rfl
    rw [e1, nums_lf] at q
    rw [q]
    rfl
  -- order
  obtain ⟨D2, od, hD2, hod, ho⟩ := hO D1 n hD1 hn
  have eod : ev G C (.call f_law_order [(.brw 0), (.var 2)]) [some (D1, .ow), some (.int k, .sh), some (.int n, .sh), some (.lst (nums lv), .sh), none, none, none, none, none, none, none] = .ok (.lst (nums od), true) [some (D2, .ow), some (.int k, .sh), some (.int n, .sh), some (.lst (nums lv), .sh), none, none, none, none, none, none, none] := by
    have hF : G.fns[f_law_order]? = some B_law_order := rfl
    simp [exs, ex1, ev, evs, evas, ag, E.asBrw, rd, put, Rv.bind, Rv.fl, fin1, fin2, Ag.get, Ag.isB, fin, O1.rk, O2.rk, Rk.own, T.tr, T.lf, hF, callR, bindA, B_law_order, ioOf, roOf, apart, putIo, ho]
  -- thick
  obtain ⟨v, D3, hD3, _, e3⟩ := Ev.take hC (s := [some (D2, .ow), some (.int k, .sh), some (.int n, .sh), some (.lst (nums lv), .sh), some (.lst (nums od), .sh), none, none, none, none, none, none]) (e := .con (.int (3 : Nat))) rfl rfl hD2 Ev.con (by decide) (by decide)
  have ad : V2 .add (.int 1) (.int v) (.int ((1 + v : Nat) : Int)) := ⟨by
    have : ((1 + v : Nat) : Int) = 1 + (v : Int) := by omega
    rw [this]; rfl, rfl⟩
  obtain ⟨D4, f, x', row', y', an', q1, q2, q3, q4⟩ := rows_goS (C := C) hC (k := k) (th := 1 + v) hlv hod hn (List.range n) D3 [] none none none none hD3 (fun z hz => List.mem_range.mp hz) (by simp; omega) (by simp)
  refine ⟨D4, f, q2, ⟨by rw [q3]; simp, q4⟩, ?_⟩
  apply run_s (F := B_law_styled) rfl (s0 := [some (D, .ow), some (.int k, .sh), some (.int n, .sh), none, none, none, none, none, none, none, none]) rfl
  · refine Sts.cons (St.set ⟨elv⟩) (Sts.cons (St.set ⟨eod⟩) (Sts.cons (St.set (Ev.two rfl rfl Ev.con e3 ad)) (Sts.cons (St.own Ev.lst0) (Sts.cons ⟨x_fr1 rfl (rngE (C := C) (i := 2) (n := n) rfl (by omega)).h rfl q1⟩ (Sts.rt (St.ret ⟨movE rfl⟩))))))
  · rfl
end

local macro_rules | `(tactic| walk_at "lfgo") => `(tactic| first | exact Lf.int | exact Lf.bl | exact Lf.nums | exact lfT | exact Lf.non | exact Lf.str | exact Lf.wd (by first | decide | assumption) | assumption)
local macro_rules | `(tactic| walk_at "trT") => `(tactic| first | exact Tr.blT | (apply Tr.of; decide) | (apply Tr.of; rfl) | (apply Tr.of; simp only [*]; done) | (apply Tr.of; simp only [*]; rfl) | fail)
local macro_rules | `(tactic| walk_at "trF") => `(tactic| first | exact Tr.blF | (apply Tr.of; decide) | (apply Tr.of; rfl) | (apply Tr.of; simp only [*]; done) | (apply Tr.of; simp only [*]; rfl) | fail)
local macro_rules | `(tactic| walk_at "vgo") => `(tactic| first | exact V2.eqN | exact V2.eqI | exact V2.neN | exact V2.eqB | exact V2.neB | exact idT (by assumption) | exact ix0 | exact ix1 | exact ix2 | exact ixL rfl | exact V1.neg1 | exact V2.lt | exact V2.le | exact V2.gt | exact V2.ge | exact V1.lenN | exact V1.lenNl | exact V1.isTup | exact V1.isInt | exact V1.isBoolI | exact V1.isBoolB | exact V1.isNn | exact V1.isNt | exact V1.notNn | exact V1.notNt | exact V1.isStr (by first | decide | assumption) | exact Mm.nm | exact Mm.nmt | exact q0 (by decide) | exact q1 (by decide) | exact q2 (by decide) | exact q3 (by decide) | exact q4 (by decide) | exact q5 (by decide) | exact q6 (by decide) | exact q7 (by decide) | exact q8 (by decide) | exact q9 (by decide) | exact q10 (by decide) | exact q11 (by decide) | exact q12 (by decide) | exact q13 (by decide) | exact q14 (by decide) | exact q15 (by decide) | exact q16 (by decide) | exact q17 (by decide) | exact r_tup_asym_anti (by decide) | exact r_tup_total_conn (by decide) | exact r_tup_refl_irr_serial_inv (by decide) | exact r_lst_refl_irr_serial_inv (by decide) | exact r_lst_trans_neg_eucl_func (by decide) | exact r_lst_refl_irr (by decide) | exact r_lst_sym_asym (by decide) | exact r_lst_anti_conn (by decide) | exact r_lst_total_full (by decide) | exact r_lst_ident_one (by decide) | apply V2.mem | apply V2.nmem | fail)
local macro_rules | `(tactic| walk_at "ev1") => `(tactic| first | exact Ev.con | assumption | exact Ev.var rfl (by walk_at "lfgo") | exact Ev.varL rfl | apply Ev.and | apply Ev.or | apply Ev.chain | apply Ev.not rfl | apply Ev.call1 rfl rfl rfl | apply Ev.call2 rfl rfl rfl rfl | apply Ev.call3 rfl rfl rfl rfl rfl | apply Ev.call4 rfl rfl rfl rfl rfl rfl | apply Ev.call5 rfl rfl rfl rfl rfl rfl rfl | apply Ev.call0 rfl rfl | walk_at "ite" | apply Ev.one rfl | apply Ev.two rfl rfl | exact Ev.tup0 | exact Ev.lst0 | apply Ev.tup1 | apply Ev.tup2 | apply Ev.tup4 | apply Ev.lst2 | apply Ev.lst3 | apply Ev.lst4 | walk_at "vgo" | apply_assumption | fail)
local macro_rules | `(tactic| walk_at "evgo") => `(tactic| repeat' (walk_at "ev1"))
local macro_rules | `(tactic| walk_at "ite") => `(tactic| first | (apply Ev.iteT; (· walk_at "evgo"); (· walk_at "trT")) | (apply Ev.iteF; (· walk_at "evgo"); (· walk_at "trF")) | fail)
local macro_rules | `(tactic| walk_at "st1") => `(tactic| first | exact Sts.nil | (apply Sts.rt; apply St.ret; walk_at "evgo") | (apply Sts.cons; (· (apply St.skip; (· walk_at "evgo"); (· walk_at "trF")))) | (apply Sts.rt; apply St.iffT; (· walk_at "evgo"); (· walk_at "trT")) | (apply Sts.cons; (· (apply St.set; (· walk_at "evgo")))) | (apply Sts.cons; (· (apply St.par2; (· walk_at "evgo"); (· walk_at "evgo"); (· rfl)))) | (apply Sts.cons; (· (apply St.unp; (· walk_at "evgo"); (· rfl)))) | fail)
local macro_rules | `(tactic| walk_at "stgo") => `(tactic| repeat' (walk_at "st1"))
section
variable {C : Nat → List T → CR} {cells : List Int}
def rowM (f : List (List Bool)) (x : Nat) : List Bool := f.getD x []
def getM (f : List (List Bool)) (x y : Nat) : Bool := (rowM f x).getD y false
def setM (f : List (List Bool)) (x y : Nat) (b : Bool) : List (List Bool) := f.set x ((rowM f x).set y b)
theorem Mx.set {n : Nat} {f : List (List Bool)} (h : Mx n f) {x y : Nat} {b : Bool} (hx : x < n) : Mx n (setM f x y b) := by
  refine ⟨by unfold setM; rw [List.length_set, h.ln], fun r hr => ?_⟩
  unfold setM at hr
  rcases List.mem_or_eq_of_mem_set hr with q | q
  · exact h.rl r q
  · rw [q, List.length_set]
    have hx' : x < f.length := by rw [h.ln]; exact hx
    rw [show rowM f x = f[x] by simp [rowM, List.getD, hx']]
    exact h.rl _ (List.getElem_mem hx')
def stT (D : T) (m n : Nat) (f : List (List Bool)) (md : Nat) (z5 z6 z7 : Option (T × Ow)) : Sl := [some (D, .ow), some (.int m, .sh), some (.int n, .sh), some (mxT f, .ow), some (.int md, .sh), z5, z6, z7]
theorem mx_row {n : Nat} {f : List (List Bool)} (h : Mx n f) {x : Nat} (hx : x < n) : (f.map blsT)[x]? = some (.lst ((rowM f x).map T.bl)) ∧ (rowM f x).length = n ∧ ixN (f.map blsT).length (x : Int) = some x := by
  have hx' : x < f.length := by rw [h.ln]; exact hx
  have e : rowM f x = f[x] := by simp [rowM, List.getD, hx']
  rw [e]
  refine ⟨?_, h.rl _ (List.getElem_mem hx'), ?_⟩
  · rw [List.getElem?_map, List.getElem?_eq_getElem hx']; rfl
  · unfold ixN
    rw [List.length_map, if_pos (by omega), if_pos (by omega)]; rfl
theorem ix_in {l n : Nat} (h : l = n) {y : Nat} (hy : y < n) : ixN l (y : Int) = some y := by
  unfold ixN
  rw [if_pos (by omega), if_pos (by omega)]; rfl
theorem idx2E {s : Sl} {n a b x y : Nat} {f : List (List Bool)} (h : Mx n f) (h3 : rd s 3 = some (mxT f, .ow)) (ha : rd s a = some (.int x, .sh)) (hb : rd s b = some (.int y, .sh)) (hx : x < n) (hy : y < n) : Ev G C (.op3 .idx2 (.brw 3) (.var a) (.var b)) s (.bl (getM f x y)) true s := ⟨by
  obtain ⟨r1, r2, r3⟩ := mx_row h hx
  have e1 : idxT (mxT f) (.int x) = some (.lst ((rowM f x).map T.bl)) := by
    simp only [mxT, idxT, r3, Option.bind_some, r1]
  have e2 : idxT (.lst ((rowM f x).map T.bl)) (.int y) = some (.bl (getM f x y)) := by
    have hy' : y < (rowM f x).length := by rw [r2]; exact hy
    simp only [idxT, List.length_map, ix_in r2 hy, Option.bind_some]
    rw [List.getElem?_map, List.getElem?_eq_getElem hy']
    have eg : getM f x y = (rowM f x)[y] := by
      unfold getM
      simp [List.getD, hy']
    rw [eg]; rfl
  have v1 : ev G C (.var a) s = .ok (.int x, true) s := varE ha (by simp [T.lf])
  have v2 : ev G C (.var b) s = .ok (.int y, true) s := varE hb (by simp [T.lf])
  rw [ev]
  simp [ag, E.asBrw, h3, Rv.bind, v1, v2, Ag.get, O3.pre, fin3, o3, e1, e2, Ag.isB, fin, O3.rk, Rk.own, T.lf]⟩
theorem stE {D : T} {m n a b x y md : Nat} {f : List (List Bool)} {z5 z6 z7 : Option (T × Ow)} {e : E} {v : Bool} (h : Mx n f) (he : Ev G C e (stT D m n f md z5 z6 z7) (.bl v) true (stT D m n f md z5 z6 z7)) (ha : rd (stT D m n f md z5 z6 z7) a = some (.int x, .sh)) (hb : rd (stT D m n f md z5 z6 z7) b = some (.int y, .sh)) (hx : x < n) (hy : y < n) :
    St G C (.stI 3 [(.var a)] (.var b) e) (stT D m n f md z5 z6 z7) (.nx (stT D m n (setM f x y v) md z5 z6 z7)) := ⟨by
  obtain ⟨r1, r2, r3⟩ := mx_row h hx
  have v1 : ev G C (.var a) (stT D m n f md z5 z6 z7) = .ok (.int x, true) (stT D m n f md z5 z6 z7) := varE ha (by simp [T.lf])
  have v2 : ev G C (.var b) (stT D m n f md z5 z6 z7) = .ok (.int y, true) (stT D m n f md z5 z6 z7) := varE hb (by simp [T.lf])
  have hs : (rd (stT D m n f md z5 z6 z7) 3).isSome = true := rfl
  have hr : rd (stT D m n f md z5 z6 z7) 3 = some (.lst (f.map blsT), .ow) := rfl
  have sl : stL ((rowM f x).map T.bl) (.int y) (.bl v) = some (((rowM f x).map T.bl).set y (.bl v)) := by
    simp only [stL, List.length_map, ix_in r2 hy, Option.map_some]
  rw [ex1, he.h]
  simp only [Rv.fl]
  rw [if_pos hs]
  simp only [evs, v1, Rv.bind, v2, stR, hr, r3, r1, sl, if_true]
  have ee : (f.map blsT).set x (.lst (((rowM f x).map T.bl).set y (.bl v))) = (setM f x y v).map blsT := by
    unfold setM
    rw [List.map_set]
    congr 1
    unfold blsT
    rw [List.map_set]
  rw [ee]
  rfl⟩
theorem iffS {s s1 : Sl} {c : E} {k : List S} {p : Bool} (h : Ev G C c s (.bl p) true s) (hb : p = true → Sts G C k s (.nx s1)) : ∃ s', (s' = s1 ∨ s' = s) ∧ St G C (.iff c k []) s (.nx s') := by
  cases p with
  | true => exact ⟨s1, .inl rfl, St.iffT h Tr.blT (hb rfl)⟩
  | false => exact ⟨s, .inr rfl, St.skip h Tr.blF⟩
def Shx (z : Option (T × Ow)) : Prop := z = none ∨ ∃ t, z = some (t, .sh)
theorem Shx.mk {t : T} : Shx (some (t, .sh)) := .inr ⟨t, rfl⟩
def inB : List S := [.iff (.and (.op2 .mem (.var 4) (.lst [(.con (.int 4)), (.con (.int 5))])) (.and (.op3 .idx2 (.brw 3) (.var 6) (.var 5)) (.op3 .idx2 (.brw 3) (.var 5) (.var 7))))
              [.stI 3 [(.var 6)] (.var 7) (.con (.bl true))]
              []]
def miB : List S := [.iff (.op2 .eq (.var 4) (.con (.int 3)))
           [.stI 3 [(.var 6)] (.var 5) (.or (.op3 .idx2 (.brw 3) (.var 6) (.var 5)) (.op3 .idx2 (.brw 3) (.var 5) (.var 6)))]
           [],
         .fr (.nm 7) (.op1 .rng (.var 2)) inB]
def ouB : List S := [.iff (.op2 .mem (.var 4) (.lst [(.con (.int 1)), (.con (.int 2))]))
        [.stI 3 [(.var 5)] (.var 5) (.op2 .eq (.var 4) (.con (.int 1)))]
        [],
      .fr (.nm 6) (.op1 .rng (.var 2)) miB]
def s5B : List S := [.iff (.op2 .eq (.var 4) (.con (.int 5)))
        [.stI 3 [(.var 5)] (.var 5) (.con (.bl true))]
        []]
theorem rng2 {D : T} {m n md : Nat} {f : List (List Bool)} {z5 z6 z7 : Option (T × Ow)} (hn : n ≤ 6) : ev G C (.op1 .rng (.var 2)) (stT D m n f md z5 z6 z7) = .ok (.lst (nums (List.range n)), true) (stT D m n f md z5 z6 z7) := (rngE (C := C) (i := 2) (n := n) rfl (by omega)).h
theorem in_go {D : T} {m n md k x : Nat} (hk : k < n) (hx : x < n) : ∀ (ys : List Nat) (f : List (List Bool)) (z : Option (T × Ow)), Mx n f → Shx z → (∀ y ∈ ys, y < n) → ∃ f' z', forGo (.nm 7) none (fun s => exs G C inB s) (nums ys) (stT D m n f md (some (.int k, .sh)) (some (.int x, .sh)) z) = .nx (stT D m n f' md (some (.int k, .sh)) (some (.int x, .sh)) z') ∧ Mx n f' ∧ Shx z'
  | [], f, z, h, hz, _ => ⟨f, z, rfl, h, hz⟩
  | y :: ys, f, z, h, hz, hy => by
    have hy0 := hy y (by simp)
    let s : Sl := stT D m n f md (some (.int k, .sh)) (some (.int x, .sh)) (some (.int y, .sh))
    have c : Ev G C (.and (.op2 .mem (.var 4) (.lst [(.con (.int 4)), (.con (.int 5))])) (.and (.op3 .idx2 (.brw 3) (.var 6) (.var 5)) (.op3 .idx2 (.brw 3) (.var 5) (.var 7)))) s (.bl (decide (md ∈ [4, 5]) && (getM f x k && getM f k y))) true s :=
      Ev.and (Ev.two rfl rfl (Ev.var rfl Lf.int) (Ev.lst2 Ev.con Ev.con) (V2.mem (Mm.nm (y := md) (l := [4, 5])))) (Ev.and (idx2E h rfl rfl rfl hx hk) (idx2E h rfl rfl rfl hk hy0))
    obtain ⟨s', hs', q⟩ := iffS (s1 := stT D m n (setM f x y true) md (some (.int k, .sh)) (some (.int x, .sh)) (some (.int y, .sh))) c (k := [.stI 3 [(.var 6)] (.var 7) (.con (.bl true))]) fun _ => Sts.cons (stE h Ev.con rfl rfl hx hy0) Sts.nil
    have : ∃ f1, Mx n f1 ∧ s' = stT D m n f1 md (some (.int k, .sh)) (some (.int x, .sh)) (some (.int y, .sh)) := by
      rcases hs' with e | e
      · exact ⟨_, h.set hx, e⟩
      · exact ⟨f, h, e⟩
    obtain ⟨f1, h1, e⟩ := this
    subst e
    obtain ⟨f', z', p1, p2⟩ := in_go hk hx (D := D) (m := m) (md := md) ys f1 (some (.int y, .sh)) h1 .mk fun w hw => hy w (by simp [hw])
    refine ⟨f', z', ?_, p2⟩
    show forGo _ none _ (.int y :: nums ys) _ = _
    rw [forGo]
    show (match exs G C inB s with | .nx s2 => _ | r => r) = _
    have hss : Sts G C inB s _ := Sts.cons q Sts.nil
    rw [hss.h]
    exact p1
theorem mi_go {D : T} {m n md k : Nat} (hn : n ≤ 6) (hk : k < n) : ∀ (xs : List Nat) (f : List (List Bool)) (z6 z7 : Option (T × Ow)), Mx n f → Shx z6 → Shx z7 → (∀ x ∈ xs, x < n) → ∃ f' z6' z7', forGo (.nm 6) none (fun s => exs G C miB s) (nums xs) (stT D m n f md (some (.int k, .sh)) z6 z7) = .nx (stT D m n f' md (some (.int k, .sh)) z6' z7') ∧ Mx n f' ∧ Shx z6' ∧ Shx z7'
  | [], f, z6, z7, h, g6, g7, _ => ⟨f, z6, z7, rfl, h, g6, g7⟩
  | x :: xs, f, z6, z7, h, g6, g7, hx => by
    have hx0 := hx x (by simp)
    let s : Sl := stT D m n f md (some (.int k, .sh)) (some (.int x, .sh)) z7
    have c : Ev G C (.op2 .eq (.var 4) (.con (.int 3))) s (.bl (decide (md = 3))) true s := Ev.two rfl rfl (Ev.var rfl Lf.int) Ev.con (V2.eqN (y := 3))
    obtain ⟨s', hs', q⟩ := iffS (s1 := stT D m n (setM f x k (getM f x k || getM f k x)) md (some (.int k, .sh)) (some (.int x, .sh)) z7) c (k := [.stI 3 [(.var 6)] (.var 5) (.or (.op3 .idx2 (.brw 3) (.var 6) (.var 5)) (.op3 .idx2 (.brw 3) (.var 5) (.var 6)))]) fun _ => Sts.cons (stE h (Ev.or (idx2E h rfl rfl rfl hx0 hk) (idx2E h rfl rfl rfl hk hx0)) rfl rfl hx0 hk) Sts.nil
    have : ∃ f1, Mx n f1 ∧ s' = stT D m n f1 md (some (.int k, .sh)) (some (.int x, .sh)) z7 := by
      rcases hs' with e | e
      · exact ⟨_, h.set hx0, e⟩
      · exact ⟨f, h, e⟩
    obtain ⟨f1, h1, e⟩ := this
    subst e
    obtain ⟨f2, z7', p1, p2, p3⟩ := in_go (C := C) hk hx0 (D := D) (m := m) (md := md) (List.range n) f1 z7 h1 g7 fun w hw => List.mem_range.mp hw
    obtain ⟨f', z6', z8, q1, q2⟩ := mi_go hn hk (D := D) (m := m) (md := md) xs f2 (some (.int x, .sh)) z7' p2 .mk p3 fun w hw => hx w (by simp [hw])
    refine ⟨f', z6', z8, ?_, q2⟩
    show forGo _ none _ (.int x :: nums xs) _ = _
    rw [forGo]
    show (match exs G C miB s with | .nx s2 => _ | r => r) = _
    have hss : Sts G C miB s _ := Sts.cons q (Sts.cons ⟨x_fr1 rfl (rng2 hn) rfl p1⟩ Sts.nil)
    rw [hss.h]
    exact q1
theorem ou_go {D : T} {m n md : Nat} (hn : n ≤ 6) : ∀ (ks : List Nat) (f : List (List Bool)) (z5 z6 z7 : Option (T × Ow)), Mx n f → Shx z6 → Shx z7 → (∀ x ∈ ks, x < n) → ∃ f' z5' z6' z7', forGo (.nm 5) none (fun s => exs G C ouB s) (nums ks) (stT D m n f md z5 z6 z7) = .nx (stT D m n f' md z5' z6' z7') ∧ Mx n f' ∧ Shx z6' ∧ Shx z7'
  | [], f, z5, z6, z7, h, g6, g7, _ => ⟨f, z5, z6, z7, rfl, h, g6, g7⟩
  | k :: ks, f, z5, z6, z7, h, g6, g7, hk => by
    have hk0 := hk k (by simp)
    let s : Sl := stT D m n f md (some (.int k, .sh)) z6 z7
    have c : Ev G C (.op2 .mem (.var 4) (.lst [(.con (.int 1)), (.con (.int 2))])) s (.bl (decide (md ∈ [1, 2]))) true s := Ev.two rfl rfl (Ev.var rfl Lf.int) (Ev.lst2 Ev.con Ev.con) (V2.mem (Mm.nm (y := md) (l := [1, 2])))
    obtain ⟨s', hs', q⟩ := iffS (s1 := stT D m n (setM f k k (decide (md = 1))) md (some (.int k, .sh)) z6 z7) c (k := [.stI 3 [(.var 5)] (.var 5) (.op2 .eq (.var 4) (.con (.int 1)))]) fun _ => Sts.cons (stE h (Ev.two rfl rfl (Ev.var rfl Lf.int) Ev.con (V2.eqN (y := 1))) rfl rfl hk0 hk0) Sts.nil
    have : ∃ f1, Mx n f1 ∧ s' = stT D m n f1 md (some (.int k, .sh)) z6 z7 := by
      rcases hs' with e | e
      · exact ⟨_, h.set hk0, e⟩
      · exact ⟨f, h, e⟩
    obtain ⟨f1, h1, e⟩ := this
    subst e
    obtain ⟨f2, z6', z7', p1, p2, p3, p4⟩ := mi_go (C := C) hn hk0 (D := D) (m := m) (md := md) (List.range n) f1 z6 z7 h1 g6 g7 fun w hw => List.mem_range.mp hw
    obtain ⟨f', a5, a6, a7, q1, q2⟩ := ou_go hn (D := D) (m := m) (md := md) ks f2 (some (.int k, .sh)) z6' z7' p2 p3 p4 fun w hw => hk w (by simp [hw])
    refine ⟨f', a5, a6, a7, ?_, q2⟩
    show forGo _ none _ (.int k :: nums ks) _ = _
    rw [forGo]
    show (match exs G C ouB s with | .nx s2 => _ | r => r) = _
    have hss : Sts G C ouB s _ := Sts.cons q (Sts.cons ⟨x_fr1 rfl (rng2 hn) rfl p1⟩ Sts.nil)
    rw [hss.h]
    exact q1
theorem s5_go {D : T} {m n md : Nat} : ∀ (ks : List Nat) (f : List (List Bool)) (z5 z6 z7 : Option (T × Ow)), Mx n f → (∀ x ∈ ks, x < n) → ∃ f' z5', forGo (.nm 5) none (fun s => exs G C s5B s) (nums ks) (stT D m n f md z5 z6 z7) = .nx (stT D m n f' md z5' z6 z7) ∧ Mx n f'
  | [], f, z5, z6, z7, h, _ => ⟨f, z5, rfl, h⟩
  | k :: ks, f, z5, z6, z7, h, hk => by
    have hk0 := hk k (by simp)
    let s : Sl := stT D m n f md (some (.int k, .sh)) z6 z7
    have c : Ev G C (.op2 .eq (.var 4) (.con (.int 5))) s (.bl (decide (md = 5))) true s := Ev.two rfl rfl (Ev.var rfl Lf.int) Ev.con (V2.eqN (y := 5))
    obtain ⟨s', hs', q⟩ := iffS (s1 := stT D m n (setM f k k true) md (some (.int k, .sh)) z6 z7) c (k := [.stI 3 [(.var 5)] (.var 5) (.con (.bl true))]) fun _ => Sts.cons (stE h Ev.con rfl rfl hk0 hk0) Sts.nil
    have : ∃ f1, Mx n f1 ∧ s' = stT D m n f1 md (some (.int k, .sh)) z6 z7 := by
      rcases hs' with e | e
      · exact ⟨_, h.set hk0, e⟩
      · exact ⟨f, h, e⟩
    obtain ⟨f1, h1, e⟩ := this
    subst e
    obtain ⟨f', a5, q1, q2⟩ := s5_go (D := D) (m := m) (md := md) ks f1 (some (.int k, .sh)) z6 z7 h1 fun w hw => hk w (by simp [hw])
    refine ⟨f', a5, ?_, q2⟩
    show forGo _ none _ (.int k :: nums ks) _ = _
    rw [forGo]
    show (match exs G C s5B s with | .nx s2 => _ | r => r) = _
    have hss : Sts G C s5B s _ := Sts.cons q Sts.nil
    rw [hss.h]
    exact q1
/-! the sum of a row -/
def sumN (p : Nat → Bool) : Nat → Nat
  | 0 => 0
  | n + 1 => sumN p n + (if p n then 2 ^ n else 0)
theorem sumN_lt (p : Nat → Bool) : ∀ n, sumN p n < 2 ^ n
  | 0 => by simp [sumN]
  | n + 1 => by
    have := sumN_lt p n
    rw [sumN, Nat.pow_succ]
    split <;> omega
def suG (p : Nat → Bool) : T → List (T × Bool)
  | .int k => if p k.toNat then [(.int ((2 ^ k.toNat : Nat) : Int), true)] else []
  | _ => []
theorem sum_ints (p : Nat → Bool) : ∀ n, intsOf (((nums (List.range n)).flatMap (suG p)).map (·.1)) = some (((List.range n).filter p).map fun y => ((2 ^ y : Nat) : Int)) ∧ (((List.range n).filter p).map fun y => ((2 ^ y : Nat) : Int)).sum = (sumN p n : Int) := by
  have ia : ∀ (a b : List T) (x y : List Int), intsOf a = some x → intsOf b = some y → intsOf (a ++ b) = some (x ++ y) := fun a => by
    induction a with
    | nil => intro b x y h1 h2; simp only [intsOf, Option.some.injEq] at h1; subst h1; exact h2
    | cons t a ih =>
      intro b x y h1 h2
      cases t <;> simp only [intsOf, reduceCtorEq] at h1
      obtain ⟨m, m1, m2⟩ := Option.map_eq_some_iff.mp h1
      rw [List.cons_append, intsOf, ih b m y m1 h2, ← m2]; rfl
  intro n
  induction n with
  | zero => exact ⟨rfl, rfl⟩
  | succ n ih =>
    have e : nums (List.range (n + 1)) = nums (List.range n) ++ [.int n] := by rw [List.range_succ]; simp [nums]
    rw [e, List.flatMap_append, List.map_append, List.range_succ, List.filter_append, List.map_append, List.sum_append, sumN]
    have e2 : (([T.int (n : Nat)]).flatMap (suG p)).map (·.1) = if p n then [.int ((2 ^ n : Nat) : Int)] else [] := by
      simp only [List.flatMap_cons, List.flatMap_nil, List.append_nil, suG]
      show List.map _ (if p ((n : Int).toNat) then _ else _) = _
      rw [Int.toNat_natCast]
      cases p n <;> simp
    rw [e2]
    refine ⟨ia _ _ _ _ ih.1 (by cases h : p n <;> simp [intsOf, h]), ?_⟩
    rw [ih.2]
    cases h : p n <;> simp [h]
theorem sum_run {D : T} {m n md x : Nat} {f : List (List Bool)} {z5 z7 : Option (T × Ow)} (h : Mx n f) (hn : n ≤ 6) (hx : x < n) (hz : z7 = none ∨ ∃ t, z7 = some (t, .sh)) : Ev G C (.op1 .sum (.lc (.nm 7) (.op1 .rng (.var 2)) [(.op3 .idx2 (.brw 3) (.var 6) (.var 7))] (.op2 .shl (.con (.int 1)) (.var 7)) [7])) (stT D m n f md z5 (some (.int x, .sh)) z7) (.int (sumN (getM f x) n)) true (stT D m n f md z5 (some (.int x, .sh)) z7) := by
  have mh : mayHide (stT D m n f md z5 (some (.int x, .sh)) z7) [7] = true := by rcases hz with e | ⟨t, e⟩ <;> subst e <;> rfl
  have gl : ∀ l : List T, (l.flatMap (suG (getM f x))).length ≤ l.length := fun l => by
    induction l with
    | nil => simp
    | cons a l ih =>
      rw [List.flatMap_cons, List.length_append, List.length_cons]
      have : (suG (getM f x) a).length ≤ 1 := by
        cases a <;> simp [suG]
        split <;> simp
      omega
  have q := ev_lc (G := G) (C := C) (t := .nm 7) (it := .op1 .rng (.var 2)) (cs := [(.op3 .idx2 (.brw 3) (.var 6) (.var 7))]) (elt := .op2 .shl (.con (.int 1)) (.var 7)) (own := [7]) (g := suG (getM f x)) (xs := nums (List.range n)) (ag_of rfl (rng2 (C := C) (D := D) (m := m) (f := f) (md := md) (z5 := z5) (z6 := some (.int x, .sh)) (z7 := z7) hn)) rfl mh (fun z hz => by
    obtain ⟨y, hy, rfl⟩ := List.mem_map.mp hz
    have hy := List.mem_range.mp hy
    refine ⟨stT D m n f md z5 (some (.int x, .sh)) (some (.int y, .sh)), stT D m n f md z5 (some (.int x, .sh)) (some (.int y, .sh)), rfl, ?_, rfl⟩
    have c := idx2E (C := C) (s := stT D m n f md z5 (some (.int x, .sh)) (some (.int y, .sh))) (a := 6) (b := 7) h rfl rfl rfl hx hy
    have sh : V2 .shl (.int 1) (.int y) (.int ((2 ^ y : Nat) : Int)) := ⟨by
      have e : shlOk 1 (y : Int) = true := by
        unfold shlOk
        rw [decide_eq_true_eq]
        refine ⟨by omega, by omega, by decide⟩
      simp [o2, e], rfl⟩
    have e2 : Ev G C (.op2 .shl (.con (.int 1)) (.var 7)) (stT D m n f md z5 (some (.int x, .sh)) (some (.int y, .sh))) (.int ((2 ^ y : Nat) : Int)) true (stT D m n f md z5 (some (.int x, .sh)) (some (.int y, .sh))) := Ev.two rfl rfl Ev.con (Ev.var rfl Lf.int) sh
    rw [evc, c.h]
    cases hg : getM f x y with
    | true =>
      simp only [Rv.bind, T.tr, evc]
      rw [e2.h]
      simp [suG, hg]
    | false => simp [Rv.bind, T.tr, suG, hg]) (by
    have := gl (nums (List.range n))
    rw [nums_len, List.length_range] at this
    unfold LIM; omega)
  obtain ⟨i1, i2⟩ := sum_ints (getM f x) n
  refine ⟨?_⟩
  rw [ev, ag_of rfl q]
  simp only [Rv.bind, fin1, Ag.get, o1, sumT, i1, Option.map_some, i2, Ag.isB, fin, Bool.false_eq_true, if_false, O1.rk, Rk.own]
def StyledC (C : Nat → List T → CR) (cells : List Int) : Prop := ∀ (D : T) (k n : Nat), Dr cells D → 0 < n → n ≤ 6 → ∃ D' f, Dr cells D' ∧ Mx n f ∧ C f_law_styled [D, .int k, .int n] = .ok (mxT f) true [D']
theorem addN {a b : Nat} : V2 .add (.int a) (.int b) (.int ((a + b : Nat) : Int)) := ⟨by simp [o2, addT], rfl⟩
theorem tie_run (hC : TakeC C cells) (hS : StyledC C cells) {D : T} (hD : Dr cells D) {m : Nat} (h0 : 0 < m) (hm : m ≤ 6) : ∃ D' t, Dr cells D' ∧ Tie t ∧ runFn G C B_law_tie [D, .int m] = .ok (tieT t) true [D'] := by
  obtain ⟨v, D1, hD1, hv, e1⟩ := Ev.take hC (s := [some (D, .ow), some (.int m, .sh), none, none, none, none, none, none]) (e := .var 1) rfl rfl hD (Ev.var rfl Lf.int) h0 (by omega)
  obtain ⟨n, hn0, hn, hne⟩ : ∃ n, 0 < n ∧ n ≤ 6 ∧ n = 1 + v := ⟨1 + v, by omega, by omega, rfl⟩
  have ad : V2 .add (.int 1) (.int v) (.int n) := by rw [hne]; exact addN (a := 1)
  obtain ⟨k, D2, hD2, _, e2⟩ := Ev.take hC (s := [some (D1, .ow), some (.int m, .sh), some (.int n, .sh), none, none, none, none, none]) (e := .con (.int (12 : Nat))) rfl rfl hD1 Ev.con (by decide) (by decide)
  obtain ⟨D3, f0, hD3, h3, c3⟩ := hS D2 k n hD2 hn0 hn
  have s3 : Ev G C (.call f_law_styled [(.brw 0), (.call f_law_take [(.brw 0), (.con (.int 12))]), (.var 2)]) [some (D1, .ow), some (.int m, .sh), some (.int n, .sh), none, none, none, none, none] (mxT f0) true [some (D3, .ow), some (.int m, .sh), some (.int n, .sh), none, none, none, none, none] := ⟨by
    have hF : G.fns[f_law_styled]? = some B_law_styled := rfl
    have e2' : ev G C (.call f_law_take [(.brw 0), (.con (.int 12))]) [some (D1, .ow), some (.int m, .sh), some (.int n, .sh), none, none, none, none, none] = .ok (.int k, true) [some (D2, .ow), some (.int m, .sh), some (.int n, .sh), none, none, none, none, none] := e2.h
    have e4 : ev G C (.var 2) [some (D2, .ow), some (.int m, .sh), some (.int n, .sh), none, none, none, none, none] = .ok (.int n, true) [some (D2, .ow), some (.int m, .sh), some (.int n, .sh), none, none, none, none, none] := varE rfl (by simp [T.lf])
    rw [ev, evas]
    have hb : ag (.brw 0) (ev G C (.brw 0) [some (D1, .ow), some (.int m, .sh), some (.int n, .sh), none, none, none, none, none]) [some (D1, .ow), some (.int m, .sh), some (.int n, .sh), none, none, none, none, none] = .ok (.b 0) [some (D1, .ow), some (.int m, .sh), some (.int n, .sh), none, none, none, none, none] := rfl
    rw [hb]
    simp only [Rv.bind, evas]
    rw [ag_of rfl e2']
    simp only [Rv.bind]
    rw [ag_of rfl e4]
    simp only [Rv.bind, hF]
    simp [callR, bindA, B_law_styled, rd, ioOf, roOf, apart, putIo, put, c3]⟩
  obtain ⟨md, D4, hD4, _, e5⟩ := Ev.take hC (s := [some (D3, .ow), some (.int m, .sh), some (.int n, .sh), some (mxT f0, .ow), none, none, none, none]) (e := .con (.int (9 : Nat))) rfl rfl hD3 Ev.con (by decide) (by decide)
  obtain ⟨f1, a5, a6, a7, p1, p2, p3, p4⟩ := ou_go (C := C) (D := D4) (m := m) (md := md) hn (List.range n) f0 none none none h3 (.inl rfl) (.inl rfl) fun w hw => List.mem_range.mp hw
  obtain ⟨f2, b5, q1, q2⟩ := s5_go (C := C) (D := D4) (m := m) (md := md) (List.range n) f1 a5 a6 a7 p2 fun w hw => List.mem_range.mp hw
  -- the last change
  have last : ∃ D5 f3 c6 c7, Dr cells D5 ∧ Mx n f3 ∧ St G C (.iff (.op2 .eq (.var 4) (.con (.int 6)))
     [.par [(6, false), (7, false)] [(.call f_law_take [(.brw 0), (.var 2)]), (.call f_law_take [(.brw 0), (.var 2)])],
      .stI 3 [(.var 6)] (.var 7) (.op1 .notO (.op3 .idx2 (.brw 3) (.var 6) (.var 7)))]
     []) (stT D4 m n f2 md b5 a6 a7) (.nx (stT D5 m n f3 md b5 c6 c7)) ∧ Shx c6 ∧ Shx c7 := by
    have c : Ev G C (.op2 .eq (.var 4) (.con (.int 6))) (stT D4 m n f2 md b5 a6 a7) (.bl (decide (md = 6))) true (stT D4 m n f2 md b5 a6 a7) := Ev.two rfl rfl (Ev.var rfl Lf.int) Ev.con (V2.eqN (y := 6))
    by_cases h6 : md = 6
    · obtain ⟨x, D5, d1, hx, t1⟩ := Ev.take hC (s := stT D4 m n f2 md b5 a6 a7) (e := .var 2) rfl rfl hD4 (Ev.var rfl Lf.int) hn0 (by omega)
      have ee : put (stT D4 m n f2 md b5 a6 a7) 0 D5 .ow = stT D5 m n f2 md b5 a6 a7 := rfl
      rw [ee] at t1
      obtain ⟨y, D6, d2, hy, t2⟩ := Ev.take hC (s := stT D5 m n f2 md b5 a6 a7) (e := .var 2) rfl rfl d1 (Ev.var rfl Lf.int) hn0 (by omega)
      have e2 : put (stT D5 m n f2 md b5 a6 a7) 0 D6 .ow = stT D6 m n f2 md b5 a6 a7 := rfl
      rw [e2] at t2
      have i2 := idx2E (C := C) (s := stT D6 m n f2 md b5 (some (.int x, .sh)) (some (.int y, .sh))) (a := 6) (b := 7) q2 rfl rfl rfl hx hy
      exact ⟨D6, setM f2 x y (!getM f2 x y), some (.int x, .sh), some (.int y, .sh), d2, q2.set hx, St.iffT c (Tr.of (by simp [h6])) (Sts.cons (St.par2 t1 t2 rfl) (Sts.cons (stE q2 (Ev.not rfl i2) rfl rfl hx hy) Sts.nil)), .mk, .mk⟩
    · exact ⟨D4, f2, a6, a7, hD4, q2, St.skip c (Tr.of (by simp [h6])), p3, p4⟩
  obtain ⟨D5, f3, c6, c7, hD5, h5, l1, g6, g7⟩ := last
  let tt : List Nat := (List.range n).map fun x => sumN (getM f3 x) n
  have mh : mayHide (stT D5 m n f3 md b5 c6 c7) [6] = true := by rcases g6 with e | ⟨u, e⟩ <;> subst e <;> rfl
  have qm := ev_map (G := G) (C := C) (t := .nm 6) (it := .op1 .rng (.var 2)) (elt := .op1 .sum (.lc (.nm 7) (.op1 .rng (.var 2)) [(.op3 .idx2 (.brw 3) (.var 6) (.var 7))] (.op2 .shl (.con (.int 1)) (.var 7)) [7])) (own := [6]) (h := fun z => (match z with | .int x => .int (sumN (getM f3 x.toNat) n) | _ => .non, true)) (xs := nums (List.range n)) (ag_of rfl (rng2 (C := C) (D := D5) (m := m) (f := f3) (md := md) (z5 := b5) (z6 := c6) (z7 := c7) hn)) rfl mh (fun z hz => by
    obtain ⟨x, hx, rfl⟩ := List.mem_map.mp hz
    have hx := List.mem_range.mp hx
    exact ⟨stT D5 m n f3 md b5 (some (.int x, .sh)) c7, stT D5 m n f3 md b5 (some (.int x, .sh)) c7, rfl, (sum_run (C := C) h5 hn hx g7).h, rfl⟩) (by rw [nums_len, List.length_range]; unfold LIM; omega)
  have em : (nums (List.range n)).map (fun z => ((match z with | .int x => .int (sumN (getM f3 x.toNat) n) | _ => .non, true) : T × Bool).1) = nums tt := by
    unfold nums
    rw [List.map_map, List.map_map]; rfl
  rw [em, nums_lf] at qm
  have tp : V1 .tuple (.lst (nums tt)) (tieT tt) := ⟨rfl, by
    show (tieT tt).inner = true
    unfold tieT
    rw [T.inner]; exact nums_lf tt⟩
  have hl : tt.length = n := by simp [tt]
  refine ⟨D5, tt, hD5, ⟨by omega, by omega, fun a ha => ?_⟩, ?_⟩
  · obtain ⟨x, _, rfl⟩ := List.mem_map.mp ha
    rw [hl]
    exact sumN_lt _ n
  apply run_s (F := B_law_tie) rfl (s0 := [some (D, .ow), some (.int m, .sh), none, none, none, none, none, none]) rfl
  · exact Sts.cons (St.set (Ev.two rfl rfl Ev.con e1 ad)) (Sts.cons (St.own s3) (Sts.cons (St.set e5) (Sts.cons ⟨x_fr1 rfl (rng2 (C := C) hn) rfl p1⟩ (Sts.cons ⟨x_fr1 rfl (rng2 (C := C) hn) rfl q1⟩ (Sts.cons l1 (Sts.rt (St.ret (Ev.one rfl ⟨qm⟩ tp))))))))
  · rfl
end

local macro_rules | `(tactic| walk_at "lfgo") => `(tactic| first | exact Lf.int | exact Lf.bl | exact Lf.nums | exact lfT | exact Lf.non | exact Lf.str | exact Lf.wd (by first | decide | assumption) | assumption)
local macro_rules | `(tactic| walk_at "trT") => `(tactic| first | exact Tr.blT | (apply Tr.of; decide) | (apply Tr.of; rfl) | (apply Tr.of; simp only [*]; done) | (apply Tr.of; simp only [*]; rfl) | fail)
local macro_rules | `(tactic| walk_at "trF") => `(tactic| first | exact Tr.blF | (apply Tr.of; decide) | (apply Tr.of; rfl) | (apply Tr.of; simp only [*]; done) | (apply Tr.of; simp only [*]; rfl) | fail)
local macro_rules | `(tactic| walk_at "vgo") => `(tactic| first | exact V2.eqN | exact V2.eqI | exact V2.neN | exact V2.eqB | exact V2.neB | exact idT (by assumption) | exact ix0 | exact ix1 | exact ix2 | exact ixL rfl | exact V1.neg1 | exact V2.lt | exact V2.le | exact V2.gt | exact V2.ge | exact V1.lenN | exact V1.lenNl | exact V1.isTup | exact V1.isInt | exact V1.isBoolI | exact V1.isBoolB | exact V1.isNn | exact V1.isNt | exact V1.notNn | exact V1.notNt | exact V1.isStr (by first | decide | assumption) | exact Mm.nm | exact Mm.nmt | exact q0 (by decide) | exact q1 (by decide) | exact q2 (by decide) | exact q3 (by decide) | exact q4 (by decide) | exact q5 (by decide) | exact q6 (by decide) | exact q7 (by decide) | exact q8 (by decide) | exact q9 (by decide) | exact q10 (by decide) | exact q11 (by decide) | exact q12 (by decide) | exact q13 (by decide) | exact q14 (by decide) | exact q15 (by decide) | exact q16 (by decide) | exact q17 (by decide) | exact r_tup_asym_anti (by decide) | exact r_tup_total_conn (by decide) | exact r_tup_refl_irr_serial_inv (by decide) | exact r_lst_refl_irr_serial_inv (by decide) | exact r_lst_trans_neg_eucl_func (by decide) | exact r_lst_refl_irr (by decide) | exact r_lst_sym_asym (by decide) | exact r_lst_anti_conn (by decide) | exact r_lst_total_full (by decide) | exact r_lst_ident_one (by decide) | apply V2.mem | apply V2.nmem | fail)
local macro_rules | `(tactic| walk_at "ev1") => `(tactic| first | exact Ev.con | assumption | exact Ev.var rfl (by walk_at "lfgo") | exact Ev.varL rfl | apply Ev.and | apply Ev.or | apply Ev.chain | apply Ev.not rfl | apply Ev.call1 rfl rfl rfl | apply Ev.call2 rfl rfl rfl rfl | apply Ev.call3 rfl rfl rfl rfl rfl | apply Ev.call4 rfl rfl rfl rfl rfl rfl | apply Ev.call5 rfl rfl rfl rfl rfl rfl rfl | apply Ev.call0 rfl rfl | walk_at "ite" | apply Ev.one rfl | apply Ev.two rfl rfl | exact Ev.tup0 | exact Ev.lst0 | apply Ev.tup1 | apply Ev.tup2 | apply Ev.tup4 | apply Ev.lst2 | apply Ev.lst3 | apply Ev.lst4 | walk_at "vgo" | apply_assumption | fail)
local macro_rules | `(tactic| walk_at "evgo") => `(tactic| repeat' (walk_at "ev1"))
local macro_rules | `(tactic| walk_at "ite") => `(tactic| first | (apply Ev.iteT; (· walk_at "evgo"); (· walk_at "trT")) | (apply Ev.iteF; (· walk_at "evgo"); (· walk_at "trF")) | fail)
local macro_rules | `(tactic| walk_at "st1") => `(tactic| first | exact Sts.nil | (apply Sts.rt; apply St.ret; walk_at "evgo") | (apply Sts.cons; (· (apply St.skip; (· walk_at "evgo"); (· walk_at "trF")))) | (apply Sts.rt; apply St.iffT; (· walk_at "evgo"); (· walk_at "trT")) | (apply Sts.cons; (· (apply St.set; (· walk_at "evgo")))) | (apply Sts.cons; (· (apply St.par2; (· walk_at "evgo"); (· walk_at "evgo"); (· rfl)))) | (apply Sts.cons; (· (apply St.unp; (· walk_at "evgo"); (· rfl)))) | fail)
local macro_rules | `(tactic| walk_at "stgo") => `(tactic| repeat' (walk_at "st1"))
section
variable {C : Nat → List T → CR} {t : List Nat}
theorem law_bad_run (hC : LHasC C t) (hA : AheadC C t) (hT : Tie t) {i : Nat} {row : List Nat} (hi : i < 18) (h13 : i ≠ 13) (hl : row.length = cntN i) (hr : ∀ x ∈ row, x < t.length) : runFn G C B_law_bad [tieT t, wd i, .tup (nums row)] = .ok (.bl (badN t i row)) true [] := by
  have hx : i = 0 ∨ i = 1 ∨ i = 2 ∨ i = 3 ∨ i = 4 ∨ i = 5 ∨ i = 6 ∨ i = 7 ∨ i = 8 ∨ i = 9 ∨ i = 10 ∨ i = 11 ∨ i = 12 ∨ i = 14 ∨ i = 15 ∨ i = 16 ∨ i = 17 := by omega
  rcases hx with rfl | rfl | rfl | rfl | rfl | rfl | rfl | rfl | rfl | rfl | rfl | rfl | rfl | rfl | rfl | rfl | rfl
  · match row, hl, hr with
    | [x], _, hr => exact bad_0 hC (hr x (by simp))
  · match row, hl, hr with
    | [x], _, hr => exact bad_1 hC (hr x (by simp))
  · match row, hl, hr with
    | [x, y], _, hr => exact bad_2 hC (hr x (by simp)) (hr y (by simp))
  · match row, hl, hr with
    | [x, y], _, hr => exact bad_3 hC (hr x (by simp)) (hr y (by simp))
  · match row, hl, hr with
    | [x, y], _, hr => exact bad_4 hC (hr x (by simp)) (hr y (by simp))
  · match row, hl, hr with
    | [x, y, z], _, hr => exact bad_5 hC (hr x (by simp)) (hr y (by simp)) (hr z (by simp))
  · match row, hl, hr with
    | [x, y, z], _, hr => exact bad_6 hC (hr x (by simp)) (hr y (by simp)) (hr z (by simp))
  · match row, hl, hr with
    | [x, y], _, hr => exact bad_7 hC (hr x (by simp)) (hr y (by simp))
  · match row, hl, hr with
    | [x, y], _, hr => exact bad_8 hC (hr x (by simp)) (hr y (by simp))
  · match row, hl, hr with
    | [x], _, hr => exact bad_9 hC (hr x (by simp))
  · match row, hl, hr with
    | [x], _, hr => exact bad_10 hC hT (hr x (by simp))
  · match row, hl, hr with
    | [x, y, z], _, hr => exact bad_11 hC (hr x (by simp)) (hr y (by simp)) (hr z (by simp))
  · match row, hl, hr with
    | [x, y, z], _, hr => exact bad_12 hC (hr x (by simp)) (hr y (by simp)) (hr z (by simp))
  · match row, hl, hr with
    | [x, y, z, w], _, hr => exact bad_14 hC (hr x (by simp)) (hr y (by simp)) (hr z (by simp)) (hr w (by simp))
  · match row, hl, hr with
    | [x, y], _, hr => exact bad_15 hC (hr x (by simp)) (hr y (by simp))
  · match row, hl, hr with
    | [x, y], _, hr => exact bad_16 hC (hr x (by simp)) (hr y (by simp))
  · match row, hl, hr with
    | [x, y], _, hr => exact bad_17 hC hA (hr x (by simp)) (hr y (by simp))
theorem says_run (b : Bool) : runFn G C B_law_says [.bl b, .bl b] = .ok (.bl true) true [] := by
  apply run_b (F := B_law_says) rfl (s0 := [some (.bl b, .sh), some (.bl b, .sh)]) rfl
  · exact Sts.rt (St.ret (Ev.and (Ev.one rfl (Ev.var rfl Lf.bl) V1.isBoolB) (Ev.two rfl rfl (Ev.var rfl Lf.bl) (Ev.var rfl Lf.bl) V2.eqB)))
  · rfl
  · simp
def SaysC (C : Nat → List T → CR) : Prop := ∀ b : Bool, Cv C f_law_says [.bl b, .bl b] (.bl true) true
def TieC (C : Nat → List T → CR) (cells : List Int) : Prop := ∀ (D : T) (m : Nat), Dr cells D → 0 < m → m ≤ 6 → ∃ D' t, Dr cells D' ∧ Tie t ∧ C f_law_tie [D, .int m] = .ok (tieT t) true [D']
end
/-! ### all together -/
def CL (n : Nat) : Nat → List T → CR := fun g us => call G n g us
theorem cv {n f : Nat} {F : Fn} {xs : List T} {z : T} {o : Bool} (hF : G.fns[f]? = some F) (h : runFn G (CL n) F xs = .ok z o []) : Cv (CL (n + 1)) f xs z o := ⟨by
  show call G (n + 1) f xs = _
  rw [callF hF]; exact h⟩
theorem cio {n f : Nat} {F : Fn} {xs : List T} {r : CR} (hF : G.fns[f]? = some F) (h : runFn G (CL n) F xs = r) : CL (n + 1) f xs = r := by
  show call G (n + 1) f xs = _
  rw [callF hF]; exact h
section
variable {t : List Nat} (hT : Tie t) (n : Nat)
theorem c_has : HasC (CL (n + 1)) := fun a y => cv (F := B_has) rfl (has_run a y)
theorem c_whole : WholeC (CL (n + 1)) := fun a => cv (F := B_is_whole) rfl (is_whole_run a)
theorem c_things : ThingsC (CL (n + 2)) := fun a => cv (F := B_things_in) rfl (things_in_run (c_has n) a)
theorem c_check_word {i : Nat} (h : i < 18) : Cv (CL (n + 1)) f_check_word [wd i] .non true := cv (F := B_check_word) rfl (check_word_run h)
theorem c_rows {m : Nat} (h : m ≤ 6) : RowsC (CL (n + 1)) m := fun k hk => cv (F := B_rows_of) rfl (rows_of_run h hk)
theorem c_count {i : Nat} (h : i < 18) (h13 : i ≠ 13) : CountC (CL (n + 1)) i := cv (F := B_law_count) rfl (law_count_run h h13)
theorem c_words : WordsC (CL (n + 1)) := ⟨by
  have := words_ok n
  rw [words_eq] at this
  exact this⟩
theorem c_says : SaysC (CL (n + 1)) := fun b => cv (F := B_law_says) rfl (says_run b)
theorem c_is_thing : ThingOkC (CL (n + 2)) f_is_thing t := fun x => cv (F := B_is_thing) rfl (is_thing_run (c_whole n) x)
theorem c_law_thing : ThingOkC (CL (n + 1)) f_law_thing t := fun x => cv (F := B_law_thing) rfl (law_thing_run x)
include hT
theorem c_is_tie : IsTieC (CL (n + 2)) t := cv (F := B_is_tie) rfl (is_tie_run hT (c_whole n))
theorem c_check_tie : Cv (CL (n + 3)) f_check_tie [tieT t] .non true := cv (F := B_check_tie) rfl (check_tie_run (c_is_tie hT n))
theorem c_led : LedC (CL (n + 3)) t := fun x hx => by
  obtain ⟨l, h1, h2⟩ := led_to_run hT (c_things n) hx
  exact ⟨l, cv (F := B_led_to) rfl h1, h2⟩
theorem c_way : WayC (CL (n + 3)) t := fun x hx => by
  rcases way_run hT (c_things n) (b := x) hx with ⟨r, h1, h2⟩ | ⟨h1, h2⟩
  · exact .inl ⟨r, cv (F := B_way_between) rfl h1, h2⟩
  · exact .inr ⟨cv (F := B_way_between) rfl h1, h2⟩
theorem c_thing : ThingC (CL (n + 2)) t := fun i x hi hx => cv (F := B_breaks_thing) rfl (breaks_thing_run (c_has n) hT hi hx)
theorem c_two : TwoC (CL (n + 4)) t := fun i x y hi hx hy => cv (F := B_breaks_two) rfl (breaks_two_run (c_has (n + 2)) (c_led hT n) hi hx hy)
omit hT in
theorem c_three : ThreeC (CL (n + 2)) t := fun i x y z hi hx hy => cv (F := B_breaks_three) rfl (breaks_three_run (c_has n) hi hx hy)
theorem c_it {i : Nat} (hi : i < 18) (h13 : i ≠ 13) : ItC (CL (n + 5)) t i := fun row hl hr => cv (F := B_breaks_it) rfl (breaks_it_run (c_has (n + 3)) (c_thing hT (n + 2)) (c_two hT n) (c_three (n + 2)) hi h13 hl hr)
omit hT in
theorem c_lhas : LHasC (CL (n + 1)) t := fun x y hx => cv (F := B_law_has) rfl (law_has_run hx)
theorem c_ahead : AheadC (CL (n + 2)) t := fun x hx => by
  obtain ⟨l, h1, h2⟩ := law_ahead_run hT (c_lhas n) hx
  exact ⟨l, cv (F := B_law_ahead) rfl h1, h2⟩
theorem c_bad {i : Nat} (hi : i < 18) (h13 : i ≠ 13) : BadC (CL (n + 3)) t i := fun row hl hr => cv (F := B_law_bad) rfl (law_bad_run (c_lhas (n + 1)) (c_ahead hT n) hT hi h13 hl hr)
end
theorem c_take (n : Nat) (cells : List Int) : TakeC (CL (n + 1)) cells := fun D m hD h0 h1 => by
  obtain ⟨i, r, s, hi, rfl⟩ := hD
  obtain ⟨k, i', r', s', q1, q2, q3, q4⟩ := take_ok (G := G) (f := f_law_take) (n := n) rfl cells i r s m hi (by omega) (by omega)
  have ek : ((k.toNat : Nat) : Int) = k := by omega
  refine ⟨k.toNat, DrT cells i' r' s', ⟨i', r', s', q1, rfl⟩, by omega, ?_⟩
  rw [ek]; exact q4
theorem c_order (n : Nat) (cells : List Int) : OrderC (CL (n + 2)) cells := fun D m hD hm => by
  obtain ⟨D', o, h1, h2, h3⟩ := order_run (c_take n cells) hD hm
  exact ⟨D', o, h1, h2, cio (F := B_law_order) rfl h3⟩
theorem c_styled (n : Nat) (cells : List Int) : StyledC (CL (n + 3)) cells := fun D k m hD h0 hm => by
  obtain ⟨D', f, h1, h2, h3⟩ := styled_run (c_take (n + 1) cells) (c_order n cells) hD (k := k) h0 hm
  exact ⟨D', f, h1, h2, cio (F := B_law_styled) rfl h3⟩
theorem c_tie (n : Nat) (cells : List Int) : TieC (CL (n + 4)) cells := fun D m hD h0 hm => by
  obtain ⟨D', t, h1, h2, h3⟩ := tie_run (c_take (n + 2) cells) (c_styled n cells) hD h0 hm
  exact ⟨D', t, h1, h2, cio (F := B_law_tie) rfl h3⟩

local macro_rules | `(tactic| walk_at "lfgo") => `(tactic| first | exact Lf.int | exact Lf.bl | exact Lf.nums | exact lfT | exact Lf.non | exact Lf.str | exact Lf.wd (by first | decide | assumption) | assumption)
local macro_rules | `(tactic| walk_at "trT") => `(tactic| first | exact Tr.blT | (apply Tr.of; decide) | (apply Tr.of; rfl) | (apply Tr.of; simp only [*]; done) | (apply Tr.of; simp only [*]; rfl) | fail)
local macro_rules | `(tactic| walk_at "trF") => `(tactic| first | exact Tr.blF | (apply Tr.of; decide) | (apply Tr.of; rfl) | (apply Tr.of; simp only [*]; done) | (apply Tr.of; simp only [*]; rfl) | fail)
local macro_rules | `(tactic| walk_at "vgo") => `(tactic| first | exact V2.eqN | exact V2.eqI | exact V2.neN | exact V2.eqB | exact V2.neB | exact idT (by assumption) | exact ix0 | exact ix1 | exact ix2 | exact ixL rfl | exact V1.neg1 | exact V2.lt | exact V2.le | exact V2.gt | exact V2.ge | exact V1.lenN | exact V1.lenNl | exact V1.isTup | exact V1.isInt | exact V1.isBoolI | exact V1.isBoolB | exact V1.isNn | exact V1.isNt | exact V1.notNn | exact V1.notNt | exact V1.isStr (by first | decide | assumption) | exact Mm.nm | exact Mm.nmt | exact q0 (by decide) | exact q1 (by decide) | exact q2 (by decide) | exact q3 (by decide) | exact q4 (by decide) | exact q5 (by decide) | exact q6 (by decide) | exact q7 (by decide) | exact q8 (by decide) | exact q9 (by decide) | exact q10 (by decide) | exact q11 (by decide) | exact q12 (by decide) | exact q13 (by decide) | exact q14 (by decide) | exact q15 (by decide) | exact q16 (by decide) | exact q17 (by decide) | exact r_tup_asym_anti (by decide) | exact r_tup_total_conn (by decide) | exact r_tup_refl_irr_serial_inv (by decide) | exact r_lst_refl_irr_serial_inv (by decide) | exact r_lst_trans_neg_eucl_func (by decide) | exact r_lst_refl_irr (by decide) | exact r_lst_sym_asym (by decide) | exact r_lst_anti_conn (by decide) | exact r_lst_total_full (by decide) | exact r_lst_ident_one (by decide) | apply V2.mem | apply V2.nmem | fail)
local macro_rules | `(tactic| walk_at "ev1") => `(tactic| first | exact Ev.con | assumption | exact Ev.var rfl (by walk_at "lfgo") | exact Ev.varL rfl | apply Ev.and | apply Ev.or | apply Ev.chain | apply Ev.not rfl | apply Ev.call1 rfl rfl rfl | apply Ev.call2 rfl rfl rfl rfl | apply Ev.call3 rfl rfl rfl rfl rfl | apply Ev.call4 rfl rfl rfl rfl rfl rfl | apply Ev.call5 rfl rfl rfl rfl rfl rfl rfl | apply Ev.call0 rfl rfl | walk_at "ite" | apply Ev.one rfl | apply Ev.two rfl rfl | exact Ev.tup0 | exact Ev.lst0 | apply Ev.tup1 | apply Ev.tup2 | apply Ev.tup4 | apply Ev.lst2 | apply Ev.lst3 | apply Ev.lst4 | walk_at "vgo" | apply_assumption | fail)
local macro_rules | `(tactic| walk_at "evgo") => `(tactic| repeat' (walk_at "ev1"))
local macro_rules | `(tactic| walk_at "ite") => `(tactic| first | (apply Ev.iteT; (· walk_at "evgo"); (· walk_at "trT")) | (apply Ev.iteF; (· walk_at "evgo"); (· walk_at "trF")) | fail)
local macro_rules | `(tactic| walk_at "st1") => `(tactic| first | exact Sts.nil | (apply Sts.rt; apply St.ret; walk_at "evgo") | (apply Sts.cons; (· (apply St.skip; (· walk_at "evgo"); (· walk_at "trF")))) | (apply Sts.rt; apply St.iffT; (· walk_at "evgo"); (· walk_at "trT")) | (apply Sts.cons; (· (apply St.set; (· walk_at "evgo")))) | (apply Sts.cons; (· (apply St.par2; (· walk_at "evgo"); (· walk_at "evgo"); (· rfl)))) | (apply Sts.cons; (· (apply St.unp; (· walk_at "evgo"); (· rfl)))) | fail)
local macro_rules | `(tactic| walk_at "stgo") => `(tactic| repeat' (walk_at "st1"))
/-! ### is_thing, judged_round, takes_objection, _law_right: any value -/
section
variable {C : Nat → List T → CR} {t : List Nat} {m n : Nat} {v : T}
def thT (t : List Nat) : T → Bool
  | .int k => decide (0 ≤ k) && decide (k < (t.length : Int))
  | _ => false
def WholeAny (C : Nat → List T → CR) : Prop := ∀ (m n : Nat) (v : T), dv m n v → Cv C f_is_whole [v] (.bl v.whole) true
def ThingAny (C : Nat → List T → CR) (f : Nat) (t : List Nat) : Prop := ∀ (m n : Nat) (v : T), dv m n v → Cv C f [tieT t, v] (.bl (thT t v)) true
theorem notInt {s : Sl} {i : Nat} (hr : rd s i = some (v, .sh)) (h : dv m n v) (h1 : v.isK .int = some false) : Ev G C (.op1 (.isK .int) (.var i)) s (.bl false) true s :=
  Ev.oneW rfl (Ev.varA hr) (by simp [o1, h1])
theorem whole_any (h : dv m n v) : runFn G C B_is_whole [v] = .ok (.bl v.whole) true [] := by
  apply run_b (F := B_is_whole) (p := v.whole) (s := [some (v, .sh)]) rfl (s0 := [some (v, .sh)]) rfl
  · refine Sts.rt (St.ret ?_)
    cases v with
    | int k => exact Ev.andT (Ev.one rfl (Ev.var rfl Lf.int) V1.isInt) (Ev.not (p := false) rfl (Ev.one rfl (Ev.var rfl Lf.int) V1.isBoolI))
    | bl k => exact Ev.andT (Ev.one rfl (Ev.var rfl Lf.bl) ⟨rfl, rfl⟩) (Ev.not (p := true) rfl (Ev.one rfl (Ev.var rfl Lf.bl) V1.isBoolB))
    | frz _ => cases n <;> exact h.elim
    | dic _ _ => cases n <;> exact h.elim
    | fn _ => cases n <;> exact h.elim
    | exn _ _ => cases n <;> exact h.elim
    | _ => exact Ev.andF (notInt rfl h rfl)
  · rfl
  · rfl
theorem thing_any (hW : WholeAny C) (h : dv m n v) : runFn G C B_is_thing [tieT t, v] = .ok (.bl (thT t v)) true [] := by
  have hw := hW m n v h
  apply run_b (F := B_is_thing) (p := thT t v) (s := [some (tieT t, .sh), some (v, .sh)]) rfl (s0 := [some (tieT t, .sh), some (v, .sh)]) rfl
  · refine Sts.rt (St.ret ?_)
    have c : Ev G C (.call f_is_whole [(.var 1)]) [some (tieT t, .sh), some (v, .sh)] (.bl v.whole) true [some (tieT t, .sh), some (v, .sh)] := Ev.call1 (F := B_is_whole) rfl rfl rfl (Ev.varA rfl) hw
    cases v with
    | int k => exact Ev.andT c (Ev.chain Ev.con (Ev.var rfl Lf.int) (Ev.one rfl (Ev.var rfl lfT) V1.lenN) V2.le V2.lt)
    | _ => exact Ev.andF c
  · rfl
  · rfl
theorem lthing_any (h : dv m n v) : runFn G C B_law_thing [tieT t, v] = .ok (.bl (thT t v)) true [] := by
  apply run_b (F := B_law_thing) (p := thT t v) (s := [some (tieT t, .sh), some (v, .sh)]) rfl (s0 := [some (tieT t, .sh), some (v, .sh)]) rfl
  · refine Sts.rt (St.ret ?_)
    cases v with
    | int k => exact Ev.andT (Ev.one rfl (Ev.var rfl Lf.int) V1.isInt) (Ev.andT (Ev.not (p := false) rfl (Ev.one rfl (Ev.var rfl Lf.int) V1.isBoolI)) (Ev.chain Ev.con (Ev.var rfl Lf.int) (Ev.one rfl (Ev.var rfl lfT) V1.lenN) V2.le V2.lt))
    | bl k => exact Ev.andT (Ev.one rfl (Ev.var rfl Lf.bl) ⟨rfl, rfl⟩) (Ev.andF (Ev.not (p := true) rfl (Ev.one rfl (Ev.var rfl Lf.bl) V1.isBoolB)))
    | frz _ => cases n <;> exact h.elim
    | dic _ _ => cases n <;> exact h.elim
    | fn _ => cases n <;> exact h.elim
    | exn _ _ => cases n <;> exact h.elim
    | _ => exact Ev.andF (notInt rfl h rfl)
  · rfl
  · rfl
/-- whether all are things -/
theorem all_any {s : Sl} {f k j : Nat} {F : Fn} {xs : List T} (hF : G.fns[f]? = some F) (hm : F.md = [.va, .va]) (hC : ThingAny C f t) (hx : ∀ x ∈ xs, dv m n x) (hl : xs.length ≤ 1000) (hv : rd s j = some (.tup xs, .sh)) (h0 : rd s 0 = some (tieT t, .sh)) (hk : mayHide s [k] = true) (hk0 : k ≠ 0) (hkl : k < s.length) :
    Ev G C (.op1 .all (.lc (.nm k) (.var j) [] (.call f [(.var 0), (.var k)]) [k])) s (.bl (xs.all (thT t))) true s := ⟨by
  exact ev_all (G := G) (C := C) (t := .nm k) (it := .var j) (elt := .call f [(.var 0), (.var k)]) (own := [k]) (s := s) (s1 := s) (xs := xs) (p := thT t) (ag_of rfl (Ev.h (Ev.varA hv))) rfl hk (fun z hz => by
    refine ⟨put (wipe s [k]) k z .sh, rfl, ?_, wipe_put⟩
    have r1 : rd (put (wipe s [k]) k z .sh) k = some (z, .sh) := rd_put_self (by rw [wipe_len]; exact hkl)
    have r0 : rd (put (wipe s [k]) k z .sh) 0 = some (tieT t, .sh) := by rw [rd_put_ne hk0, rd_wipe_ne hk0, h0]
    exact (Ev.call2 hF hm rfl rfl (Ev.var r0 lfT) (Ev.varA r1) (hC m n z (hx z hz))).h) (Nat.le_trans hl (by decide))⟩
theorem things_of : ∀ {xs : List T}, xs.all (thT t) = true → ∃ row : List Nat, xs = nums row ∧ ∀ x ∈ row, x < t.length
  | [], _ => ⟨[], rfl, by simp⟩
  | x :: xs, h => by
    rw [List.all_cons, Bool.and_eq_true] at h
    obtain ⟨row, e, hr⟩ := things_of h.2
    cases x with
    | int k =>
      have h1 := h.1
      simp only [thT, Bool.and_eq_true, decide_eq_true_eq] at h1
      refine ⟨k.toNat :: row, ?_, fun y hy => ?_⟩
      · rw [e]
        have : ((k.toNat : Nat) : Int) = k := by omega
        simp [nums, this]
      · rcases List.mem_cons.mp hy with q | q
        · rw [q]; omega
        · exact hr y q
    | _ => simp [thT] at h
theorem nums_things {row : List Nat} (h : ∀ x ∈ row, x < t.length) : (nums row).all (thT t) = true := by
  rw [List.all_eq_true]
  intro x hx
  obtain ⟨k, hk, rfl⟩ := List.mem_map.mp hx
  have := h k hk
  simp [thT]; exact this
/-! the head of a told objection -/
def condE (W : E) : E := .or (.op1 .notO (.op1 (.isK .tuple) (.var 1))) (.or (.op2 .lt (.op1 .len (.var 1)) (.con (.int 2))) (.or (.op1 .notO (.op1 (.isK .str) (.op2 .idx (.var 1) (.con (.int 0))))) (.op2 .nmem (.op2 .idx (.var 1) (.con (.int 0))) W)))
theorem mem_no {x : PySem.Str} (h : ∀ i, i < 18 → wd i ≠ .str x) : ((enc (List.range 18)).any fun z => z.eq (.str x)) = false := by
  rw [List.any_eq_false]
  intro z hz
  obtain ⟨i, hi, rfl⟩ := List.mem_map.mp hz
  have hi := List.mem_range.mp hi
  obtain ⟨s, e⟩ := wd_of hi
  have := h i hi
  rw [e] at this ⊢
  simp only [T.eq, Bool.not_eq_true, beq_eq_false_iff_ne, ne_eq]
  intro q; subst q; exact this rfl
theorem no_lst {x : PySem.Str} (hx : PySem.PyData.strOk x = true) (h : ∀ i, i < 18 → wd i ≠ .str x) : memT (.str x) (.lst (enc (List.range 18))) = some false := by
  simp only [memT, enc_pd range18_lt, T.pd, hx, Bool.and_self, if_true, mem_no h]
theorem no_tup {x : PySem.Str} (hx : PySem.PyData.strOk x = true) (h : ∀ i, i < 18 → wd i ≠ .str x) : memT (.str x) (.tup (enc (List.range 18))) = some false := by
  simp only [memT, enc_pd range18_lt, T.pd, hx, Bool.and_self, if_true, mem_no h]
theorem idxO {x : T} {xs : List T} : o2 .idx (.tup (x :: xs)) (.int 0) = some x := by simp [o2, idxT, ixN]
structure Ws (C : Nat → List T → CR) (W : E) (s : Sl) : Prop where
  nb : W.asBrw = none
  ex : ∃ Wt w, Ev G C W s Wt w s ∧ (∀ i, i < 18 → memT (wd i) Wt = some true) ∧ ∀ x : PySem.Str, PySem.PyData.strOk x = true → (∀ i, i < 18 → wd i ≠ .str x) → memT (.str x) Wt = some false
theorem ws_gl {s : Sl} : Ws C (.gl g_WORDS) s := ⟨rfl, _, _, glW, fun i hi => by rw [mem_tup hi range18_lt]; simp [hi], fun x => no_tup⟩
theorem ws_call {s : Sl} (hW : WordsC C) : Ws C (.call f_law_words []) s := ⟨rfl, _, _, Ev.call0 (F := B_law_words) rfl rfl hW, fun i hi => by rw [mem_lst hi range18_lt]; simp [hi], fun x => no_lst⟩
theorem head_ok {s : Sl} {W : E} {i : Nat} {x : T} {r : List T} (hi : i < 18) (hr : rd s 1 = some (.tup (wd i :: x :: r), .sh)) (hW : Ws C W s) : Ev G C (condE W) s (.bl false) true s := by
  obtain ⟨nb, Wt, w, e, h1, h2⟩ := hW
  have i0 : Ev G C (.op2 .idx (.var 1) (.con (.int 0))) s (wd i) (wd i).lf s := Ev.twoW rfl rfl (Ev.varA hr) Ev.con idxO
  refine Ev.orF (Ev.not (p := true) rfl (Ev.oneW rfl (Ev.varA hr) rfl)) (Ev.orF (Ev.as (Ev.two rfl rfl (Ev.oneW rfl (Ev.varA hr) lenT1.h) Ev.con V2.lt) (by simp; omega)) (Ev.orF (Ev.not (p := true) rfl (Ev.one rfl i0 (V1.isStr hi))) ?_))
  exact Ev.two (op := .nmem) rfl nb i0 e ⟨by simp [o2, h1 i hi], rfl⟩
theorem head_any (h : dv m n v) : (∃ i x r, i < 18 ∧ v = .tup (wd i :: x :: r)) ∨ ∀ (s : Sl) (W : E), rd s 1 = some (v, .sh) → Ws C W s → Ev G C (condE W) s (.bl true) true s := by
  have nt : v.isTup = false → ∀ (s : Sl) (W : E), rd s 1 = some (v, .sh) → Ws C W s → Ev G C (condE W) s (.bl true) true s := fun hq s W hr hW =>
    Ev.orT (Ev.not (p := false) rfl (Ev.oneW rfl (Ev.varA hr) (by rw [isK_tup h, hq])))
  cases v with
  | tup xs =>
    match n, h with
    | n + 1, h =>
    match xs, h with
    | [], _ => exact .inr fun s W hr hW => Ev.orF (Ev.not (p := true) rfl (Ev.oneW rfl (Ev.varA hr) rfl)) (Ev.orT (Ev.as (Ev.two rfl rfl (Ev.oneW rfl (Ev.varA hr) (z := .int 0) rfl) Ev.con V2.lt) rfl))
    | [x], _ => exact .inr fun s W hr hW => Ev.orF (Ev.not (p := true) rfl (Ev.oneW rfl (Ev.varA hr) rfl)) (Ev.orT (Ev.as (Ev.two rfl rfl (Ev.oneW rfl (Ev.varA hr) (z := .int 1) rfl) Ev.con V2.lt) rfl))
    | x :: y :: r, h =>
      have hx := h.2 x (by simp)
      have base : ∀ (s : Sl) (W : E), rd s 1 = some (.tup (x :: y :: r), .sh) → Ev G C (.or (.op1 .notO (.op1 (.isK .str) (.op2 .idx (.var 1) (.con (.int 0))))) (.op2 .nmem (.op2 .idx (.var 1) (.con (.int 0))) W)) s (.bl true) true s → Ev G C (condE W) s (.bl true) true s := fun s W hr q =>
        Ev.orF (Ev.not (p := true) rfl (Ev.oneW rfl (Ev.varA hr) rfl)) (Ev.orF (Ev.as (Ev.two rfl rfl (Ev.oneW rfl (Ev.varA hr) lenT1.h) Ev.con V2.lt) (by simp; omega)) q)
      have ns : x.isK .str = some false → ∀ (s : Sl) (W : E), rd s 1 = some (.tup (x :: y :: r), .sh) → Ws C W s → Ev G C (condE W) s (.bl true) true s := fun hq s W hr hW =>
        base s W hr (Ev.orT (Ev.not (p := false) rfl (Ev.oneW rfl (Ev.twoW rfl rfl (Ev.varA hr) Ev.con idxO) (by simp [o1, hq]))))
      cases x with
      | str s0 =>
        by_cases q : ∃ i, i < 18 ∧ wd i = .str s0
        · obtain ⟨i, hi, e⟩ := q
          exact .inl ⟨i, y, r, hi, by rw [e]⟩
        · refine .inr fun s W hr hW => base s W hr ?_
          obtain ⟨nb, Wt, w, e, h1, h2⟩ := hW
          have i0 : Ev G C (.op2 .idx (.var 1) (.con (.int 0))) s (.str s0) true s := Ev.twoW rfl rfl (Ev.varA hr) Ev.con idxO
          refine Ev.orF (Ev.not (p := true) rfl (Ev.oneW rfl i0 rfl)) (Ev.two (op := .nmem) rfl nb i0 e ⟨?_, rfl⟩)
          have k := h2 s0 (by cases n <;> exact hx) fun i hi e => q ⟨i, hi, e⟩
          simp [o2, k]
      | frz _ => cases n <;> exact hx.elim
      | dic _ _ => cases n <;> exact hx.elim
      | fn _ => cases n <;> exact hx.elim
      | exn _ _ => cases n <;> exact hx.elim
      | _ => exact .inr (ns rfl)
  | _ => exact .inr (nt rfl)
end

local macro_rules | `(tactic| walk_at "lfgo") => `(tactic| first | exact Lf.int | exact Lf.bl | exact Lf.nums | exact lfT | exact Lf.non | exact Lf.str | exact Lf.wd (by first | decide | assumption) | assumption)
local macro_rules | `(tactic| walk_at "trT") => `(tactic| first | exact Tr.blT | (apply Tr.of; decide) | (apply Tr.of; rfl) | (apply Tr.of; simp only [*]; done) | (apply Tr.of; simp only [*]; rfl) | fail)
local macro_rules | `(tactic| walk_at "trF") => `(tactic| first | exact Tr.blF | (apply Tr.of; decide) | (apply Tr.of; rfl) | (apply Tr.of; simp only [*]; done) | (apply Tr.of; simp only [*]; rfl) | fail)
local macro_rules | `(tactic| walk_at "vgo") => `(tactic| first | exact V2.eqN | exact V2.eqI | exact V2.neN | exact V2.eqB | exact V2.neB | exact idT (by assumption) | exact ix0 | exact ix1 | exact ix2 | exact ixL rfl | exact V1.neg1 | exact V2.lt | exact V2.le | exact V2.gt | exact V2.ge | exact V1.lenN | exact V1.lenNl | exact V1.isTup | exact V1.isInt | exact V1.isBoolI | exact V1.isBoolB | exact V1.isNn | exact V1.isNt | exact V1.notNn | exact V1.notNt | exact V1.isStr (by first | decide | assumption) | exact Mm.nm | exact Mm.nmt | exact q0 (by decide) | exact q1 (by decide) | exact q2 (by decide) | exact q3 (by decide) | exact q4 (by decide) | exact q5 (by decide) | exact q6 (by decide) | exact q7 (by decide) | exact q8 (by decide) | exact q9 (by decide) | exact q10 (by decide) | exact q11 (by decide) | exact q12 (by decide) | exact q13 (by decide) | exact q14 (by decide) | exact q15 (by decide) | exact q16 (by decide) | exact q17 (by decide) | exact r_tup_asym_anti (by decide) | exact r_tup_total_conn (by decide) | exact r_tup_refl_irr_serial_inv (by decide) | exact r_lst_refl_irr_serial_inv (by decide) | exact r_lst_trans_neg_eucl_func (by decide) | exact r_lst_refl_irr (by decide) | exact r_lst_sym_asym (by decide) | exact r_lst_anti_conn (by decide) | exact r_lst_total_full (by decide) | exact r_lst_ident_one (by decide) | apply V2.mem | apply V2.nmem | fail)
local macro_rules | `(tactic| walk_at "ev1") => `(tactic| first | exact Ev.con | assumption | exact Ev.var rfl (by walk_at "lfgo") | exact Ev.varL rfl | apply Ev.and | apply Ev.or | apply Ev.chain | apply Ev.not rfl | apply Ev.call1 rfl rfl rfl | apply Ev.call2 rfl rfl rfl rfl | apply Ev.call3 rfl rfl rfl rfl rfl | apply Ev.call4 rfl rfl rfl rfl rfl rfl | apply Ev.call5 rfl rfl rfl rfl rfl rfl rfl | apply Ev.call0 rfl rfl | walk_at "ite" | apply Ev.one rfl | apply Ev.two rfl rfl | exact Ev.tup0 | exact Ev.lst0 | apply Ev.tup1 | apply Ev.tup2 | apply Ev.tup4 | apply Ev.lst2 | apply Ev.lst3 | apply Ev.lst4 | walk_at "vgo" | apply_assumption | fail)
local macro_rules | `(tactic| walk_at "evgo") => `(tactic| repeat' (walk_at "ev1"))
local macro_rules | `(tactic| walk_at "ite") => `(tactic| first | (apply Ev.iteT; (· walk_at "evgo"); (· walk_at "trT")) | (apply Ev.iteF; (· walk_at "evgo"); (· walk_at "trF")) | fail)
local macro_rules | `(tactic| walk_at "st1") => `(tactic| first | exact Sts.nil | (apply Sts.rt; apply St.ret; walk_at "evgo") | (apply Sts.cons; (· (apply St.skip; (· walk_at "evgo"); (· walk_at "trF")))) | (apply Sts.rt; apply St.iffT; (· walk_at "evgo"); (· walk_at "trT")) | (apply Sts.cons; (· (apply St.set; (· walk_at "evgo")))) | (apply Sts.cons; (· (apply St.par2; (· walk_at "evgo"); (· walk_at "evgo"); (· rfl)))) | (apply Sts.cons; (· (apply St.unp; (· walk_at "evgo"); (· rfl)))) | fail)
local macro_rules | `(tactic| walk_at "stgo") => `(tactic| repeat' (walk_at "st1"))
section
variable {C : Nat → List T → CR} {t : List Nat} {m n : Nat} {v : T}
theorem takes_bad (h1 : Cv C f_check_tie [tieT t] .non true) (h : ∀ (s : Sl) (W : E), rd s 1 = some (v, .sh) → Ws C W s → Ev G C (condE W) s (.bl true) true s) : runFn G C B_takes_objection [tieT t, v] = .ok (.bl false) true [] := by
  apply run_s (F := B_takes_objection) rfl (s0 := [some (tieT t, .sh), some (v, .sh), none, none, none]) rfl
  · exact Sts.cons (St.drop (Ev.call1 (F := B_check_tie) rfl rfl rfl (Ev.var rfl lfT) h1)) (Sts.rt (St.iffT (h _ _ rfl ws_gl) Tr.blT (Sts.rt (St.ret Ev.con))))
  · rfl
theorem right_bad (hW : WordsC C) (h : ∀ (s : Sl) (W : E), rd s 1 = some (v, .sh) → Ws C W s → Ev G C (condE W) s (.bl true) true s) : runFn G C B_law_right [tieT t, v] = .ok (.bl false) true [] := by
  apply run_s (F := B_law_right) rfl (s0 := [some (tieT t, .sh), some (v, .sh), none, none, none, none, none]) rfl
  · exact Sts.rt (St.iffT (h _ _ rfl (ws_call hW)) Tr.blT (Sts.rt (St.ret Ev.con)))
  · rfl
theorem from1O {x : T} {xs : List T} : o2 .from (.tup (x :: xs)) (.int 1) = some (.tup xs) := by simp [o2, cutT, cut, sIx]
theorem lenO {xs : List T} : V1 .len (.tup xs) (.int (xs.length : Nat)) := ⟨by simp [o1, lenT], rfl⟩
/-- all but acyc -/
theorem both_n {i : Nat} {xs : List T} (hi : i < 18) (h13 : i ≠ 13) (hx : ∀ y ∈ xs, dv m n y) (hl : xs.length ≤ 1000) (h0 : xs ≠ []) (h1 : Cv C f_check_tie [tieT t] .non true) (hI : ItC C t i) (hT : ThingAny C f_is_thing t) (hB : BadC C t i) (hL : ThingAny C f_law_thing t) (hW : WordsC C) (hC : CountC C i) :
    ∃ b, runFn G C B_takes_objection [tieT t, .tup (wd i :: xs)] = .ok (.bl b) true [] ∧ runFn G C B_law_right [tieT t, .tup (wd i :: xs)] = .ok (.bl b) true [] := by
  obtain ⟨x, r, rfl⟩ : ∃ x r, xs = x :: r := by
    cases xs with
    | nil => exact absurd rfl h0
    | cons x r => exact ⟨x, r, rfl⟩
  generalize hxs : x :: r = xs at *
  have hd : ∀ (s : Sl) (W : E), rd s 1 = some (.tup (wd i :: xs), .sh) → Ws C W s → Ev G C (condE W) s (.bl false) true s := fun s W hr hW => head_ok hi (by rw [hr, hxs]) hW
  let A : Sl := [some (tieT t, .sh), some (.tup (wd i :: xs), .sh), none, none, none]
  let A' : Sl := [some (tieT t, .sh), some (.tup (wd i :: xs), .sh), some (wd i, .sh), some (.tup xs, .sh), none]
  let D : Sl := [some (tieT t, .sh), some (.tup (wd i :: xs), .sh), none, none, none, none, none]
  let D' : Sl := [some (tieT t, .sh), some (.tup (wd i :: xs), .sh), some (wd i, .sh), some (.tup xs, .sh), none, none, none]
  have s1 : St G C (.par [(2, false), (3, false)] [(.op2 .idx (.var 1) (.con (.int 0))), (.op2 .from (.var 1) (.con (.int 1)))]) A (.nx A') := St.par2 (Ev.twoW rfl rfl (Ev.varA rfl) Ev.con idxO) (Ev.twoW rfl rfl (Ev.varA rfl) Ev.con from1O) rfl
  have s1' : St G C (.par [(2, false), (3, false)] [(.op2 .idx (.var 1) (.con (.int 0))), (.op2 .from (.var 1) (.con (.int 1)))]) D (.nx D') := St.par2 (Ev.twoW rfl rfl (Ev.varA rfl) Ev.con idxO) (Ev.twoW rfl rfl (Ev.varA rfl) Ev.con from1O) rfl
  have a1 : Ev G C (.op1 .all (.lc (.nm 4) (.var 3) [] (.call f_is_thing [(.var 0), (.var 4)]) [4])) A' (.bl (xs.all (thT t))) true A' := all_any (F := B_is_thing) rfl rfl hT hx hl rfl rfl rfl (by decide) (by simp [A'])
  have a2 : Ev G C (.op1 .all (.lc (.nm 5) (.var 3) [] (.call f_law_thing [(.var 0), (.var 5)]) [5])) D' (.bl (xs.all (thT t))) true D' := all_any (F := B_law_thing) rfl rfl hL hx hl rfl rfl rfl (by decide) (by simp [D'])
  have l1 : Ev G C (.op2 .ne (.op1 .len (.var 3)) (.dget t_PLACES (.var 2))) A' (.bl (!decide (xs.length = cntN i))) true A' := Ev.two rfl rfl (Ev.one rfl (Ev.varA rfl) lenO) (dgE hi h13 rfl) V2.neN
  have l2 : Ev G C (.op2 .eq (.op1 .len (.var 3)) (.call f_law_count [(.var 2)])) D' (.bl (decide (xs.length = cntN i))) true D' := Ev.two rfl rfl (Ev.one rfl (Ev.varA rfl) lenO) (Ev.call1 (F := B_law_count) rfl rfl rfl (Ev.var rfl (Lf.wd hi)) hC) V2.eqN
  have mk : ∀ (r1 : Fl) (b : Bool) (p q : Bool) (z1 z2 : T × Bool), True := fun _ _ _ _ _ _ => trivial
  have go1 : ∀ b, Ev G C (.or (.op2 .ne (.op1 .len (.var 3)) (.dget t_PLACES (.var 2))) (.op1 .notO (.op1 .all (.lc (.nm 4) (.var 3) [] (.call f_is_thing [(.var 0), (.var 4)]) [4])))) A' (.bl (!b)) true A' → (b = true → ∃ bb, Cv C f_breaks_it [tieT t, wd i, .tup xs] (.bl bb) true) →
      (b = false → runFn G C B_takes_objection [tieT t, .tup (wd i :: xs)] = .ok (.bl false) true []) ∧ (b = true → ∀ bb, Cv C f_breaks_it [tieT t, wd i, .tup xs] (.bl bb) true → runFn G C B_takes_objection [tieT t, .tup (wd i :: xs)] = .ok (.bl bb) true []) := fun b e _ => by
    refine ⟨fun hb => ?_, fun hb bb c => ?_⟩
    · subst hb
      apply run_s (F := B_takes_objection) rfl (s0 := A) rfl
      · exact Sts.cons (St.drop (Ev.call1 (F := B_check_tie) rfl rfl rfl (Ev.var rfl lfT) h1)) (Sts.cons (St.skip (hd _ _ rfl ws_gl) Tr.blF) (Sts.cons s1 (Sts.cons (St.skip (Ev.two rfl rfl (Ev.var rfl (Lf.wd hi)) Ev.con (q13 hi)) (Tr.of (by simp [h13]))) (Sts.rt (St.iffT e Tr.blT (Sts.rt (St.ret Ev.con)))))))
      · rfl
    · subst hb
      apply run_s (F := B_takes_objection) rfl (s0 := A) rfl
      · exact Sts.cons (St.drop (Ev.call1 (F := B_check_tie) rfl rfl rfl (Ev.var rfl lfT) h1)) (Sts.cons (St.skip (hd _ _ rfl ws_gl) Tr.blF) (Sts.cons s1 (Sts.cons (St.skip (Ev.two rfl rfl (Ev.var rfl (Lf.wd hi)) Ev.con (q13 hi)) (Tr.of (by simp [h13]))) (Sts.cons (St.skip e Tr.blF) (Sts.rt (St.ret (Ev.call3 (F := B_breaks_it) rfl rfl rfl rfl rfl (Ev.var rfl lfT) (Ev.var rfl (Lf.wd hi)) (Ev.varA rfl) c)))))))
      · rfl
  have go2 : ∀ b, Ev G C (.and (.op2 .eq (.op1 .len (.var 3)) (.call f_law_count [(.var 2)])) (.and (.op1 .all (.lc (.nm 5) (.var 3) [] (.call f_law_thing [(.var 0), (.var 5)]) [5])) (.call f_law_bad [(.var 0), (.var 2), (.var 3)]))) D' (.bl b) true D' → runFn G C B_law_right [tieT t, .tup (wd i :: xs)] = .ok (.bl b) true [] := fun b e => by
    apply run_s (F := B_law_right) rfl (s0 := D) rfl
    · exact Sts.cons (St.skip (hd _ _ rfl (ws_call hW)) Tr.blF) (Sts.cons s1' (Sts.cons (St.skip (Ev.two rfl rfl (Ev.var rfl (Lf.wd hi)) Ev.con (q13 hi)) (Tr.of (by simp [h13]))) (Sts.rt (St.ret e))))
    · rfl
  by_cases hlen : xs.length = cntN i
  · cases hall : xs.all (thT t) with
    | false =>
      rw [hall] at a1 a2
      exact ⟨false, (go1 false (Ev.orF (Ev.as l1 (by simp [hlen])) (Ev.not rfl a1)) (fun h => by cases h)).1 rfl, go2 false (Ev.andT (Ev.as l2 (by simp [hlen])) (Ev.andF a2))⟩
    | true =>
      rw [hall] at a1 a2
      obtain ⟨row, e, hr⟩ := things_of hall
      have hlr : row.length = cntN i := by rw [← hlen, e, nums_len]
      have c1 := hI row hlr hr
      have c2 := hB row hlr hr
      rw [← e] at c1 c2
      exact ⟨badN t i row, (go1 true (Ev.orF (Ev.as l1 (by simp [hlen])) (Ev.not rfl a1)) (fun _ => ⟨_, c1⟩)).2 rfl _ c1, go2 _ (Ev.andT (Ev.as l2 (by simp [hlen])) (Ev.andT a2 (Ev.call3 (F := B_law_bad) rfl rfl rfl rfl rfl (Ev.var rfl lfT) (Ev.var rfl (Lf.wd hi)) (Ev.varA rfl) c2)))⟩
  · exact ⟨false, (go1 false (Ev.orT (Ev.as l1 (by simp [hlen]))) (fun h => by cases h)).1 rfl, go2 false (Ev.andF (Ev.as l2 (by simp [hlen])))⟩
/-! rounds -/
def dupB (u : List Nat) : Bool := decide ((onceI (u.map fun (a : Nat) => (a : Int))).length = u.length)
def cyc (t u : List Nat) : Bool := (u.zip (u.drop 1 ++ u.take 1)).all fun q => R t q.1 q.2
def cyc2 (t u : List Nat) : Bool := (List.range u.length).all fun k => R t (u.getD (if k = 0 then u.length - 1 else k - 1) 0) (u.getD k 0)
theorem cyc_eq {t u : List Nat} : cyc t u = cyc2 t u := by
  cases u with
  | nil => rfl
  | cons a w =>
    unfold cyc cyc2
    rw [Bool.eq_iff_iff, List.all_eq_true, List.all_eq_true]
    simp only [List.drop_succ_cons, List.drop_zero, List.take_succ_cons, List.take_zero]
    have gz : ∀ i (hi : i < w.length + 1), ((a :: w)[i]'(by simpa using hi), (w ++ [a])[i]'(by simpa using hi)) ∈ (a :: w).zip (w ++ [a]) := fun i hi => by
      have hz : i < ((a :: w).zip (w ++ [a])).length := by simp; omega
      have := List.getElem_mem hz
      rw [List.getElem_zip] at this
      exact this
    constructor
    · intro h k hk
      have hk := List.mem_range.mp hk
      rw [List.length_cons] at hk
      by_cases h0 : k = 0
      · subst h0
        have q := h _ (gz w.length (by omega))
        simp only [List.getElem_append_right (Nat.le_refl _), Nat.sub_self, List.getElem_cons_zero] at q
        simp only [if_true, List.length_cons, Nat.add_sub_cancel]
        have e1 : (a :: w).getD w.length 0 = (a :: w)[w.length]'(by simp) := by simp [List.getD]
        rw [e1]
        simpa using q
      · have q := h _ (gz (k - 1) (by omega))
        have hk1 : k - 1 < w.length := by omega
        simp only [List.getElem_append_left hk1] at q
        simp only [h0, if_false]
        have e1 : (a :: w).getD (k - 1) 0 = (a :: w)[k - 1]'(by simp; omega) := by
          rw [List.getD, List.getElem?_eq_getElem (by simp; omega)]; rfl
        have e2 : (a :: w).getD k 0 = w[k - 1] := by
          obtain ⟨j, rfl⟩ : ∃ j, k = j + 1 := ⟨k - 1, by omega⟩
          have hj : j < w.length := by omega
          simp [List.getD, hj]
        rw [e1, e2]
        exact q
    · intro h p hp
      obtain ⟨i, hi, e⟩ := List.mem_iff_getElem.mp hp
      have hi2 : i < w.length + 1 := by simp at hi; omega
      rw [List.getElem_zip] at e
      subst e
      by_cases h0 : i = w.length
      · subst h0
        have q := h 0 (by simp)
        simp only [if_true, List.length_cons, Nat.add_sub_cancel] at q
        have e1 : (a :: w).getD w.length 0 = (a :: w)[w.length]'(by simp) := by simp [List.getD]
        rw [e1] at q
        simp only [List.getElem_append_right (Nat.le_refl _), Nat.sub_self, List.getElem_cons_zero]
        simpa using q
      · have hi3 : i < w.length := by omega
        have q := h (i + 1) (by simp; omega)
        have n0 : ¬ (i + 1 = 0) := by omega
        simp only [n0, if_false, Nat.add_sub_cancel] at q
        have e1 : (a :: w).getD i 0 = (a :: w)[i]'(by simp; omega) := by
          rw [List.getD, List.getElem?_eq_getElem (by simp; omega)]; rfl
        have e2 : (a :: w).getD (i + 1) 0 = w[i] := by simp [List.getD, hi3]
        rw [e1, e2] at q
        simp only [List.getElem_append_left hi3]
        exact q
theorem V1.lenSetA {c : List Nat} (hl : c.length ≤ 1000) : V1 .lenSet (.tup (nums c)) (.int ((onceI (c.map fun (a : Nat) => (a : Int))).length : Nat)) := ⟨by
  have h1 : (nums c).length ≤ 4000 := by rw [nums_len]; omega
  simp only [o1, lenSetT, if_pos h1, intsOf_nums, Option.map_some], rfl⟩
end

local macro_rules | `(tactic| walk_at "lfgo") => `(tactic| first | exact Lf.int | exact Lf.bl | exact Lf.nums | exact lfT | exact Lf.non | exact Lf.str | exact Lf.wd (by first | decide | assumption) | assumption)
local macro_rules | `(tactic| walk_at "trT") => `(tactic| first | exact Tr.blT | (apply Tr.of; decide) | (apply Tr.of; rfl) | (apply Tr.of; simp only [*]; done) | (apply Tr.of; simp only [*]; rfl) | fail)
local macro_rules | `(tactic| walk_at "trF") => `(tactic| first | exact Tr.blF | (apply Tr.of; decide) | (apply Tr.of; rfl) | (apply Tr.of; simp only [*]; done) | (apply Tr.of; simp only [*]; rfl) | fail)
local macro_rules | `(tactic| walk_at "vgo") => `(tactic| first | exact V2.eqN | exact V2.eqI | exact V2.neN | exact V2.eqB | exact V2.neB | exact idT (by assumption) | exact ix0 | exact ix1 | exact ix2 | exact ixL rfl | exact V1.neg1 | exact V2.lt | exact V2.le | exact V2.gt | exact V2.ge | exact V1.lenN | exact V1.lenNl | exact V1.isTup | exact V1.isInt | exact V1.isBoolI | exact V1.isBoolB | exact V1.isNn | exact V1.isNt | exact V1.notNn | exact V1.notNt | exact V1.isStr (by first | decide | assumption) | exact Mm.nm | exact Mm.nmt | exact q0 (by decide) | exact q1 (by decide) | exact q2 (by decide) | exact q3 (by decide) | exact q4 (by decide) | exact q5 (by decide) | exact q6 (by decide) | exact q7 (by decide) | exact q8 (by decide) | exact q9 (by decide) | exact q10 (by decide) | exact q11 (by decide) | exact q12 (by decide) | exact q13 (by decide) | exact q14 (by decide) | exact q15 (by decide) | exact q16 (by decide) | exact q17 (by decide) | exact r_tup_asym_anti (by decide) | exact r_tup_total_conn (by decide) | exact r_tup_refl_irr_serial_inv (by decide) | exact r_lst_refl_irr_serial_inv (by decide) | exact r_lst_trans_neg_eucl_func (by decide) | exact r_lst_refl_irr (by decide) | exact r_lst_sym_asym (by decide) | exact r_lst_anti_conn (by decide) | exact r_lst_total_full (by decide) | exact r_lst_ident_one (by decide) | apply V2.mem | apply V2.nmem | fail)
local macro_rules | `(tactic| walk_at "ev1") => `(tactic| first | exact Ev.con | assumption | exact Ev.var rfl (by walk_at "lfgo") | exact Ev.varL rfl | apply Ev.and | apply Ev.or | apply Ev.chain | apply Ev.not rfl | apply Ev.call1 rfl rfl rfl | apply Ev.call2 rfl rfl rfl rfl | apply Ev.call3 rfl rfl rfl rfl rfl | apply Ev.call4 rfl rfl rfl rfl rfl rfl | apply Ev.call5 rfl rfl rfl rfl rfl rfl rfl | apply Ev.call0 rfl rfl | walk_at "ite" | apply Ev.one rfl | apply Ev.two rfl rfl | exact Ev.tup0 | exact Ev.lst0 | apply Ev.tup1 | apply Ev.tup2 | apply Ev.tup4 | apply Ev.lst2 | apply Ev.lst3 | apply Ev.lst4 | walk_at "vgo" | apply_assumption | fail)
local macro_rules | `(tactic| walk_at "evgo") => `(tactic| repeat' (walk_at "ev1"))
local macro_rules | `(tactic| walk_at "ite") => `(tactic| first | (apply Ev.iteT; (· walk_at "evgo"); (· walk_at "trT")) | (apply Ev.iteF; (· walk_at "evgo"); (· walk_at "trF")) | fail)
local macro_rules | `(tactic| walk_at "st1") => `(tactic| first | exact Sts.nil | (apply Sts.rt; apply St.ret; walk_at "evgo") | (apply Sts.cons; (· (apply St.skip; (· walk_at "evgo"); (· walk_at "trF")))) | (apply Sts.rt; apply St.iffT; (· walk_at "evgo"); (· walk_at "trT")) | (apply Sts.cons; (· (apply St.set; (· walk_at "evgo")))) | (apply Sts.cons; (· (apply St.par2; (· walk_at "evgo"); (· walk_at "evgo"); (· rfl)))) | (apply Sts.cons; (· (apply St.unp; (· walk_at "evgo"); (· rfl)))) | fail)
local macro_rules | `(tactic| walk_at "stgo") => `(tactic| repeat' (walk_at "st1"))
section
variable {C : Nat → List T → CR} {t : List Nat} {m n : Nat} {v : T}
def jB (t : List Nat) (x : T) : Option (List Nat) → Bool
  | some u => dupB u && cyc t u
  | none => false
/-- the things of a ring -/
theorem ring_cases (x : T) : (x.isTup = false) ∨ x = .tup [] ∨ (∃ ys, x = .tup ys ∧ ys ≠ [] ∧ ys.all (thT t) = false) ∨ ∃ u : List Nat, x = .tup (nums u) ∧ u ≠ [] ∧ ∀ y ∈ u, y < t.length := by
  cases x with
  | tup ys =>
    by_cases h0 : ys = []
    · exact .inr (.inl (by rw [h0]))
    · cases h : ys.all (thT t) with
      | false => exact .inr (.inr (.inl ⟨ys, rfl, h0, h⟩))
      | true =>
        obtain ⟨u, e, hu⟩ := things_of h
        exact .inr (.inr (.inr ⟨u, by rw [e], fun q => h0 (by rw [e, q]; rfl), hu⟩))
  | _ => exact .inl rfl
theorem len0 {ys : List T} : Ev G C (.op2 .eq (.op1 .len (.var 1)) (.con (.int 0))) [some (tieT t, .sh), some (.tup ys, .sh), none, none] (.bl (decide (ys.length = 0))) true [some (tieT t, .sh), some (.tup ys, .sh), none, none] :=
  Ev.two rfl rfl (Ev.one rfl (Ev.varA rfl) lenO) Ev.con (V2.eqN (y := 0))
theorem upto1 {u : List Nat} : V2 .upto (.tup (nums u)) (.int 1) (.tup (nums (u.take 1))) := ⟨by
  have e : sIx (nums u).length (nums u).length (some 1) = min 1 (nums u).length := by simp [sIx]
  simp only [o2, cutT, cut, e, sIx]
  congr 2
  cases u <;> simp [nums], by
  show T.inner (.tup (nums (u.take 1))) = true
  rw [T.inner]; exact nums_lf _⟩
theorem from1N {u : List Nat} : V2 .from (.tup (nums u)) (.int 1) (.tup (nums (u.drop 1))) := ⟨by
  cases u with
  | nil => simp [o2, cutT, cut, sIx, nums]
  | cons a w =>
    simp [o2, cutT, cut, sIx, nums]
    exact List.take_of_length_le (by simp), by
  show T.inner (.tup (nums (u.drop 1))) = true
  rw [T.inner]; exact nums_lf _⟩
theorem addNN {a b : List Nat} (ha : a.length ≤ 1000) (hb : b.length ≤ 1000) : V2 .add (.tup (nums a)) (.tup (nums b)) (.tup (nums (a ++ b))) := ⟨by
  have : (nums a).length + (nums b).length ≤ LIM := by rw [nums_len, nums_len]; unfold LIM; omega
  simp only [o2, addT, if_pos this]
  simp [nums], by
  show T.inner (.tup (nums (a ++ b))) = true
  rw [T.inner]; exact nums_lf _⟩
def prP (t : List Nat) : T → Bool
  | .tup [.int a, .int b] => R t a.toNat b.toNat
  | _ => false
theorem zip_prP {a b : List Nat} : (zipT (nums a) (nums b)).all (prP t) = (a.zip b).all fun q => R t q.1 q.2 := by
  unfold zipT nums
  rw [List.zip_map, List.all_map, List.all_map]
  rfl
theorem judged_row (hC : HasC C) (hI : ThingAny C f_is_thing t) {u : List Nat} (h0 : u ≠ []) (hu : ∀ y ∈ u, y < t.length) (hl : u.length ≤ 900) : runFn G C B_judged_round [tieT t, .tup (nums u)] = .ok (.bl (dupB u && cyc t u)) true [] := by
  let A : Sl := [some (tieT t, .sh), some (.tup (nums u), .sh), none, none]
  have all : Ev G C (.op1 .all (.lc (.nm 2) (.var 1) [] (.call f_is_thing [(.var 0), (.var 2)]) [2])) A (.bl ((nums u).all (thT t))) true A := all_any (F := B_is_thing) (m := 1) (n := 1) rfl rfl hI (fun x hx => by
    obtain ⟨k, _, rfl⟩ := List.mem_map.mp hx
    exact dv_int) (by rw [nums_len]; omega) rfl rfl rfl (by decide) (by simp [A])
  rw [nums_things hu] at all
  have hp : 0 < u.length := List.length_pos_iff.mpr h0
  have c1 : Ev G C (.or (.op1 .notO (.op1 (.isK .tuple) (.var 1))) (.or (.op2 .eq (.op1 .len (.var 1)) (.con (.int 0))) (.op1 .notO (.op1 .all (.lc (.nm 2) (.var 1) [] (.call f_is_thing [(.var 0), (.var 2)]) [2]))))) A (.bl false) true A :=
    Ev.orF (Ev.not (p := true) rfl (Ev.one rfl (Ev.var rfl Lf.nums) V1.isTup)) (Ev.orF (Ev.as len0 (by rw [decide_eq_false_iff_not, nums_len]; omega)) (Ev.not (p := true) rfl all))
  have c2 : Ev G C (.op2 .ne (.op1 .lenSet (.var 1)) (.op1 .len (.var 1))) A (.bl (!dupB u)) true A :=
    Ev.two rfl rfl (Ev.one rfl (Ev.var rfl Lf.nums) (V1.lenSetA (by omega))) (Ev.one rfl (Ev.var rfl Lf.nums) V1.lenN) V2.neN
  cases hd : dupB u with
  | false =>
    rw [hd] at c2
    apply run_s (F := B_judged_round) rfl (s0 := A) rfl
    · exact Sts.cons (St.skip c1 Tr.blF) (Sts.rt (St.iffT c2 Tr.blT (Sts.rt (St.ret Ev.con))))
    · rfl
  | true =>
    rw [hd] at c2
    have zp : V2 .zip (.tup (nums u)) (.tup (nums (u.drop 1 ++ u.take 1))) (.lst (zipT (nums u) (nums (u.drop 1 ++ u.take 1)))) := ⟨rfl, by
      show (T.lst (zipT (nums u) (nums (u.drop 1 ++ u.take 1)))).inner = true
      rw [T.inner, lfL_iff]
      intro p hp
      unfold zipT at hp
      obtain ⟨⟨c, d⟩, hq, rfl⟩ := List.mem_map.mp hp
      have h1 := lfL_iff.mp (nums_lf u) c (List.of_mem_zip hq).1
      have h2 := lfL_iff.mp (nums_lf (u.drop 1 ++ u.take 1)) d (List.of_mem_zip hq).2
      simp [T.lf, T.lfL, h1, h2]⟩
    have ez : Ev G C (.op2 .zip (.var 1) (.op2 .add (.op2 .from (.var 1) (.con (.int 1))) (.op2 .upto (.var 1) (.con (.int 1))))) A (.lst (zipT (nums u) (nums (u.drop 1 ++ u.take 1)))) true A :=
      Ev.two rfl rfl (Ev.var rfl Lf.nums) (Ev.two rfl rfl (Ev.two rfl rfl (Ev.var rfl Lf.nums) Ev.con from1N) (Ev.two rfl rfl (Ev.var rfl Lf.nums) Ev.con upto1) (addNN (by simp; omega) (by simp; omega))) zp
    have q := ev_all (G := G) (C := C) (t := .tp [2, 3]) (elt := .call f_has [(.op2 .idx (.var 0) (.var 2)), (.var 3)]) (own := [2, 3]) (p := prP t) (xs := zipT (nums u) (nums (u.drop 1 ++ u.take 1))) (ag_of rfl ez.h) rfl rfl (fun z hz => by
      unfold zipT at hz
      obtain ⟨⟨c, d⟩, hq, rfl⟩ := List.mem_map.mp hz
      have hq1 := (List.of_mem_zip hq).1
      have hq2 := (List.of_mem_zip hq).2
      obtain ⟨a, ha, rfl⟩ := List.mem_map.mp hq1
      obtain ⟨b, hb, rfl⟩ := List.mem_map.mp hq2
      refine ⟨[some (tieT t, .sh), some (.tup (nums u), .sh), some (.int a, .sh), some (.int b, .sh)], rfl, ?_, rfl⟩
      exact (Ev.call2 (G := G) (C := C) (F := B_has) (f := f_has) (a := .op2 .idx (.var 0) (.var 2)) (b := .var 3) (s := [some (tieT t, .sh), some (.tup (nums u), .sh), some (.int a, .sh), some (.int b, .sh)]) rfl rfl rfl rfl (Ev.two rfl rfl (Ev.var rfl lfT) (Ev.var rfl Lf.int) (idT (hu a ha))) (Ev.var rfl Lf.int) (hC _ _)).h) (by
      unfold zipT
      rw [List.length_map, List.length_zip, nums_len, nums_len]
      unfold LIM; omega)
    rw [zip_prP] at q
    have q : Ev G C (.op1 .all (.lc (.tp [2, 3]) (.op2 .zip (.var 1) (.op2 .add (.op2 .from (.var 1) (.con (.int 1))) (.op2 .upto (.var 1) (.con (.int 1))))) [] (.call f_has [(.op2 .idx (.var 0) (.var 2)), (.var 3)]) [2, 3])) A (.bl (cyc t u)) true A := ⟨q⟩
    apply run_s (F := B_judged_round) rfl (s0 := A) rfl
    · exact Sts.cons (St.skip c1 Tr.blF) (Sts.cons (St.skip c2 Tr.blF) (Sts.rt (St.ret q)))
    · rfl
theorem judged_not (hI : ThingAny C f_is_thing t) {x : T} (hx : dv m n x) (hl : ∀ ys, x = .tup ys → ys.length ≤ 900) (h : x.isTup = false ∨ x = .tup [] ∨ ∃ ys, x = .tup ys ∧ ys ≠ [] ∧ ys.all (thT t) = false) : runFn G C B_judged_round [tieT t, x] = .ok (.bl false) true [] := by
  let A : Sl := [some (tieT t, .sh), some (x, .sh), none, none]
  have c1 : Ev G C (.or (.op1 .notO (.op1 (.isK .tuple) (.var 1))) (.or (.op2 .eq (.op1 .len (.var 1)) (.con (.int 0))) (.op1 .notO (.op1 .all (.lc (.nm 2) (.var 1) [] (.call f_is_thing [(.var 0), (.var 2)]) [2]))))) A (.bl true) true A := by
    rcases h with h | rfl | ⟨ys, rfl, h0, h⟩
    · exact Ev.orT (Ev.not (p := false) rfl (Ev.oneW rfl (Ev.varA rfl) (by rw [isK_tup hx, h])))
    · exact Ev.orF (Ev.not (p := true) rfl (Ev.oneW rfl (Ev.varA rfl) rfl)) (Ev.orT len0)
    · have all : Ev G C (.op1 .all (.lc (.nm 2) (.var 1) [] (.call f_is_thing [(.var 0), (.var 2)]) [2])) A (.bl (ys.all (thT t))) true A := by
        match n, hx with
        | n + 1, hx => exact all_any (F := B_is_thing) (m := m) (n := n) rfl rfl hI hx.2 (by have := hl ys rfl; omega) rfl rfl rfl (by decide) (by simp [A])
      rw [h] at all
      exact Ev.orF (Ev.not (p := true) rfl (Ev.oneW rfl (Ev.varA rfl) rfl)) (Ev.orF (Ev.as len0 (by simpa using h0)) (Ev.not (p := false) rfl all))
  apply run_s (F := B_judged_round) rfl (s0 := A) rfl
  · exact Sts.rt (St.iffT c1 Tr.blT (Sts.rt (St.ret Ev.con)))
  · rfl
theorem at_any {u : List Nat} {k : Nat} (hk : k < u.length) : V2 .idx (.tup (nums u)) (.int ((k : Int) - 1)) (.int (u.getD (if k = 0 then u.length - 1 else k - 1) 0 : Nat)) := ⟨by
  have e : ixN (nums u).length ((k : Int) - 1) = some (if k = 0 then u.length - 1 else k - 1) := by
    unfold ixN
    rw [nums_len]
    by_cases h : k = 0
    · subst h
      rw [if_neg (by omega), if_pos (by omega)]
      congr 1
      simp
      omega
    · rw [if_pos (by omega), if_pos (by omega)]
      congr 1
      rw [if_neg h]
      omega
  have hlt : (if k = 0 then u.length - 1 else k - 1) < u.length := by split <;> omega
  simp only [o2, idxT, e, Option.bind_some]
  unfold nums
  rw [List.getElem?_map, List.getElem?_eq_getElem hlt, List.getD, List.getElem?_eq_getElem hlt]
  rfl, by simp [O2.rk, Rk.own, T.lf]⟩
theorem eq_nil {ys : List T} (h : dv m n (.tup ys)) (hn : n ≤ 50) : o2 .eq (.tup ys) (.tup []) = some (.bl ys.isEmpty) := by
  have e : (T.tup ys).pd 60 = true := pd_mono (by omega) (dv_pd h)
  have e2 : (T.tup []).pd 60 = true := by simp [T.pd, T.pdL]
  have e3 : (T.tup ys).eq (.tup []) = ys.isEmpty := by cases ys <;> simp [T.eq, T.eqL]
  simp only [o2, M.eqT, e, e2, e3, Bool.and_self, if_true]
def D1 (t : List Nat) (v x : T) (xs : List T) : Sl := [some (tieT t, .sh), some (v, .sh), some (wd 13, .sh), some (.tup xs, .sh), some (x, .sh), none, none]
def rc2 : E := .or (.op2 .ne (.op1 .len (.var 3)) (.con (.int 1))) (.or (.op1 .notO (.op1 (.isK .tuple) (.var 4))) (.or (.op2 .eq (.var 4) (.tup [])) (.op1 .notO (.op1 .all (.lc (.nm 5) (.var 4) [] (.call f_law_thing [(.var 0), (.var 5)]) [5])))))
def rl2 : E := .and (.op2 .eq (.op1 .lenSet (.var 4)) (.op1 .len (.var 4))) (.op1 .all (.lc (.nm 6) (.op1 .rng (.op1 .len (.var 4))) [] (.call f_law_has [(.var 0), (.op2 .idx (.var 4) (.op2 .sub (.var 6) (.con (.int 1)))), (.op2 .idx (.var 4) (.var 6))]) [6]))
theorem rl2_ok (hC : LHasC C t) {u : List Nat} (hu : ∀ y ∈ u, y < t.length) (hl : u.length ≤ 900) {v' : T} {xs : List T} : Ev G C rl2 (D1 t v' (.tup (nums u)) xs) (.bl (dupB u && cyc t u)) true (D1 t v' (.tup (nums u)) xs) := by
  have e1 : Ev G C (.op2 .eq (.op1 .lenSet (.var 4)) (.op1 .len (.var 4))) (D1 t v' (.tup (nums u)) xs) (.bl (dupB u)) true (D1 t v' (.tup (nums u)) xs) :=
    Ev.two rfl rfl (Ev.one rfl (Ev.var rfl Lf.nums) (V1.lenSetA (by omega))) (Ev.one rfl (Ev.var rfl Lf.nums) V1.lenN) V2.eqN
  have rg : Ev G C (.op1 .rng (.op1 .len (.var 4))) (D1 t v' (.tup (nums u)) xs) (.lst (nums (List.range u.length))) true (D1 t v' (.tup (nums u)) xs) :=
    Ev.one rfl (Ev.one rfl (Ev.var rfl Lf.nums) V1.lenN) (V1.rng (by omega))
  have q := ev_all (G := G) (C := C) (t := .nm 6) (elt := .call f_law_has [(.var 0), (.op2 .idx (.var 4) (.op2 .sub (.var 6) (.con (.int 1)))), (.op2 .idx (.var 4) (.var 6))]) (own := [6]) (p := pN fun k => R t (u.getD (if k = 0 then u.length - 1 else k - 1) 0) (u.getD k 0)) (xs := nums (List.range u.length)) (ag_of rfl rg.h) rfl rfl (fun z hz => by
    obtain ⟨k, hk, rfl⟩ := List.mem_map.mp hz
    have hk := List.mem_range.mp hk
    refine ⟨[some (tieT t, .sh), some (v', .sh), some (wd 13, .sh), some (.tup xs, .sh), some (.tup (nums u), .sh), none, some (.int k, .sh)], rfl, ?_, rfl⟩
    have hlt : (if k = 0 then u.length - 1 else k - 1) < u.length := by split <;> omega
    have hc := hC (u.getD (if k = 0 then u.length - 1 else k - 1) 0) (u.getD k 0) (hu _ (by
      rw [List.getD, List.getElem?_eq_getElem hlt]
      exact List.getElem_mem hlt))
    have hb : u[k]? = some (u.getD k 0) := by rw [List.getD, List.getElem?_eq_getElem hk]; rfl
    have sb : V2 .sub (.int k) (.int 1) (.int ((k : Int) - 1)) := ⟨rfl, rfl⟩
    exact (Ev.call3 (G := G) (C := C) (F := B_law_has) (s := [some (tieT t, .sh), some (v', .sh), some (wd 13, .sh), some (.tup xs, .sh), some (.tup (nums u), .sh), none, some (.int k, .sh)]) rfl rfl rfl rfl rfl (Ev.var rfl lfT) (Ev.two rfl rfl (Ev.var rfl Lf.nums) (Ev.two rfl rfl (Ev.var rfl Lf.int) Ev.con sb) (at_any hk)) (Ev.two rfl rfl (Ev.var rfl Lf.nums) (Ev.var rfl Lf.int) (V2.idxN hb)) hc).h) (by rw [nums_len, List.length_range]; unfold LIM; omega)
  rw [nums_all] at q
  have e : ((List.range u.length).all fun k => R t (u.getD (if k = 0 then u.length - 1 else k - 1) 0) (u.getD k 0)) = cyc t u := by rw [cyc_eq]; rfl
  rw [e] at q
  exact Ev.and e1 ⟨q⟩
theorem both_13 {x : T} {r : List T} (hx : dv m n x) (hn : n ≤ 50) (hl : ∀ ys, x = .tup ys → ys.length ≤ 900) (hr : r.length ≤ 1000) (h1 : Cv C f_check_tie [tieT t] .non true) (hJ : ∃ b, Cv C f_judged_round [tieT t, x] (.bl b) true ∧ (∀ u : List Nat, x = .tup (nums u) → u ≠ [] → (∀ y ∈ u, y < t.length) → b = (dupB u && cyc t u)) ∧ ((x.isTup = false ∨ x = .tup [] ∨ ∃ ys, x = .tup ys ∧ ys ≠ [] ∧ ys.all (thT t) = false) → b = false))
    (hC : LHasC C t) (hL : ThingAny C f_law_thing t) (hW : WordsC C) :
    ∃ b, runFn G C B_takes_objection [tieT t, .tup (wd 13 :: x :: r)] = .ok (.bl b) true [] ∧ runFn G C B_law_right [tieT t, .tup (wd 13 :: x :: r)] = .ok (.bl b) true [] := by
  have h13 : 13 < 18 := by decide
  obtain ⟨b, cj, j1, j2⟩ := hJ
  let V : T := .tup (wd 13 :: x :: r)
  let A : Sl := [some (tieT t, .sh), some (V, .sh), none, none, none]
  let A' : Sl := [some (tieT t, .sh), some (V, .sh), some (wd 13, .sh), some (.tup (x :: r), .sh), none]
  let D : Sl := [some (tieT t, .sh), some (V, .sh), none, none, none, none, none]
  let D' : Sl := [some (tieT t, .sh), some (V, .sh), some (wd 13, .sh), some (.tup (x :: r), .sh), none, none, none]
  have s1 : St G C (.par [(2, false), (3, false)] [(.op2 .idx (.var 1) (.con (.int 0))), (.op2 .from (.var 1) (.con (.int 1)))]) A (.nx A') := St.par2 (Ev.twoW rfl rfl (Ev.varA rfl) Ev.con idxO) (Ev.twoW rfl rfl (Ev.varA rfl) Ev.con from1O) rfl
  have s1' : St G C (.par [(2, false), (3, false)] [(.op2 .idx (.var 1) (.con (.int 0))), (.op2 .from (.var 1) (.con (.int 1)))]) D (.nx D') := St.par2 (Ev.twoW rfl rfl (Ev.varA rfl) Ev.con idxO) (Ev.twoW rfl rfl (Ev.varA rfl) Ev.con from1O) rfl
  have s2' : St G C (.set 4 (.op2 .idx (.var 3) (.con (.int 0)))) D' (.nx (D1 t V x (x :: r))) := St.set (Ev.twoW rfl rfl (Ev.varA rfl) Ev.con idxO)
  have l1 : Ev G C (.op2 .eq (.op1 .len (.var 3)) (.con (.int 1))) A' (.bl (decide ((x :: r).length = 1))) true A' := Ev.two rfl rfl (Ev.one rfl (Ev.varA rfl) lenO) Ev.con (V2.eqN (y := 1))
  have l2 : Ev G C (.op2 .ne (.op1 .len (.var 3)) (.con (.int 1))) (D1 t V x (x :: r)) (.bl (!decide ((x :: r).length = 1))) true (D1 t V x (x :: r)) := Ev.two rfl rfl (Ev.one rfl (Ev.varA rfl) lenO) Ev.con (V2.neN (y := 1))
  have go1 : ∀ b, Ev G C (.and (.op2 .eq (.op1 .len (.var 3)) (.con (.int 1))) (.call f_judged_round [(.var 0), (.op2 .idx (.var 3) (.con (.int 0)))])) A' (.bl b) true A' → runFn G C B_takes_objection [tieT t, V] = .ok (.bl b) true [] := fun b e => by
    apply run_s (F := B_takes_objection) rfl (s0 := A) rfl
    · exact Sts.cons (St.drop (Ev.call1 (F := B_check_tie) rfl rfl rfl (Ev.var rfl lfT) h1)) (Sts.cons (St.skip (head_ok h13 rfl ws_gl) Tr.blF) (Sts.cons s1 (Sts.rt (St.iffT (Ev.two rfl rfl (Ev.var rfl (Lf.wd h13)) Ev.con (q13 h13)) Tr.blT (Sts.rt (St.ret e))))))
    · rfl
  have no2 : Ev G C rc2 (D1 t V x (x :: r)) (.bl true) true (D1 t V x (x :: r)) → runFn G C B_law_right [tieT t, V] = .ok (.bl false) true [] := fun e => by
    apply run_s (F := B_law_right) rfl (s0 := D) rfl
    · exact Sts.cons (St.skip (head_ok h13 rfl (ws_call hW)) Tr.blF) (Sts.cons s1' (Sts.rt (St.iffT (Ev.two rfl rfl (Ev.var rfl (Lf.wd h13)) Ev.con (q13 h13)) Tr.blT (Sts.cons s2' (Sts.rt (St.iffT e Tr.blT (Sts.rt (St.ret Ev.con))))))))
    · rfl
  have yes2 : ∀ b, Ev G C rc2 (D1 t V x (x :: r)) (.bl false) true (D1 t V x (x :: r)) → Ev G C rl2 (D1 t V x (x :: r)) (.bl b) true (D1 t V x (x :: r)) → runFn G C B_law_right [tieT t, V] = .ok (.bl b) true [] := fun b e e2 => by
    apply run_s (F := B_law_right) rfl (s0 := D) rfl
    · exact Sts.cons (St.skip (head_ok h13 rfl (ws_call hW)) Tr.blF) (Sts.cons s1' (Sts.rt (St.iffT (Ev.two rfl rfl (Ev.var rfl (Lf.wd h13)) Ev.con (q13 h13)) Tr.blT (Sts.cons s2' (Sts.cons (St.skip e Tr.blF) (Sts.rt (St.ret e2)))))))
    · rfl
  by_cases hr0 : r = []
  · subst hr0
    have t1 : runFn G C B_takes_objection [tieT t, V] = .ok (.bl b) true [] := go1 b (Ev.andT (Ev.as l1 rfl) (Ev.call2 (F := B_judged_round) rfl rfl rfl rfl (Ev.var rfl lfT) (Ev.twoW rfl rfl (Ev.varA rfl) Ev.con idxO) cj))
    have l2 := Ev.as (q := false) l2 rfl
    rcases ring_cases (t := t) x with h | h | ⟨ys, h, h0, ha⟩ | ⟨u, h, h0, hu⟩
    · have := j2 (.inl h)
      subst this
      exact ⟨false, t1, no2 (Ev.orF l2 (Ev.orT (Ev.not (p := false) rfl (Ev.oneW rfl (Ev.varA rfl) (by rw [isK_tup hx, h])))))⟩
    · have := j2 (.inr (.inl h))
      subst this h
      exact ⟨false, t1, no2 (Ev.orF l2 (Ev.orF (Ev.not (p := true) rfl (Ev.oneW rfl (Ev.varA rfl) rfl)) (Ev.orT (Ev.twoW rfl rfl (Ev.varA rfl) Ev.tup0 (eq_nil hx hn)))))⟩
    · have := j2 (.inr (.inr ⟨ys, h, h0, ha⟩))
      subst this h
      have all : Ev G C (.op1 .all (.lc (.nm 5) (.var 4) [] (.call f_law_thing [(.var 0), (.var 5)]) [5])) (D1 t V (.tup ys) [.tup ys]) (.bl (ys.all (thT t))) true (D1 t V (.tup ys) [.tup ys]) := by
        match n, hx with
        | n + 1, hx => exact all_any (F := B_law_thing) (m := m) (n := n) rfl rfl hL hx.2 (by have := hl ys rfl; omega) rfl rfl rfl (by decide) (by simp [D1])
      rw [ha] at all
      have ee : ys.isEmpty = false := by cases ys with | nil => exact absurd rfl h0 | cons _ _ => rfl
      exact ⟨false, t1, no2 (Ev.orF l2 (Ev.orF (Ev.not (p := true) rfl (Ev.oneW rfl (Ev.varA rfl) rfl)) (Ev.orF (Ev.as (Ev.twoW rfl rfl (Ev.varA rfl) Ev.tup0 (eq_nil hx hn)) ee) (Ev.not (p := false) rfl all))))⟩
    · have := j1 u h h0 hu
      subst this h
      have hlu : u.length ≤ 900 := by have := hl _ rfl; rw [nums_len] at this; exact this
      have all : Ev G C (.op1 .all (.lc (.nm 5) (.var 4) [] (.call f_law_thing [(.var 0), (.var 5)]) [5])) (D1 t V (.tup (nums u)) [.tup (nums u)]) (.bl ((nums u).all (thT t))) true (D1 t V (.tup (nums u)) [.tup (nums u)]) := all_any (F := B_law_thing) (m := 1) (n := 1) rfl rfl hL (fun x hx => by
        obtain ⟨k, _, rfl⟩ := List.mem_map.mp hx
        exact dv_int) (by rw [nums_len]; omega) rfl rfl rfl (by decide) (by simp [D1])
      rw [nums_things hu] at all
      have ee : (nums u).isEmpty = false := by cases u with | nil => exact absurd rfl h0 | cons _ _ => rfl
      exact ⟨_, t1, yes2 _ (Ev.orF l2 (Ev.orF (Ev.not (p := true) rfl (Ev.oneW rfl (Ev.varA rfl) rfl)) (Ev.orF (Ev.as (Ev.twoW rfl rfl (Ev.varA rfl) Ev.tup0 (eq_nil hx hn)) ee) (Ev.not (p := true) rfl all)))) (rl2_ok hC hu hlu)⟩
  · have hne : decide ((x :: r).length = 1) = false := by
      rw [decide_eq_false_iff_not, List.length_cons]
      have := List.length_pos_iff.mpr hr0
      omega
    exact ⟨false, go1 false (Ev.andF (Ev.as l1 hne)), no2 (Ev.orT (Ev.as l2 (by rw [hne]; rfl)))⟩
end

local macro_rules | `(tactic| walk_at "lfgo") => `(tactic| first | exact Lf.int | exact Lf.bl | exact Lf.nums | exact lfT | exact Lf.non | exact Lf.str | exact Lf.wd (by first | decide | assumption) | assumption)
local macro_rules | `(tactic| walk_at "trT") => `(tactic| first | exact Tr.blT | (apply Tr.of; decide) | (apply Tr.of; rfl) | (apply Tr.of; simp only [*]; done) | (apply Tr.of; simp only [*]; rfl) | fail)
local macro_rules | `(tactic| walk_at "trF") => `(tactic| first | exact Tr.blF | (apply Tr.of; decide) | (apply Tr.of; rfl) | (apply Tr.of; simp only [*]; done) | (apply Tr.of; simp only [*]; rfl) | fail)
local macro_rules | `(tactic| walk_at "vgo") => `(tactic| first | exact V2.eqN | exact V2.eqI | exact V2.neN | exact V2.eqB | exact V2.neB | exact idT (by assumption) | exact ix0 | exact ix1 | exact ix2 | exact ixL rfl | exact V1.neg1 | exact V2.lt | exact V2.le | exact V2.gt | exact V2.ge | exact V1.lenN | exact V1.lenNl | exact V1.isTup | exact V1.isInt | exact V1.isBoolI | exact V1.isBoolB | exact V1.isNn | exact V1.isNt | exact V1.notNn | exact V1.notNt | exact V1.isStr (by first | decide | assumption) | exact Mm.nm | exact Mm.nmt | exact q0 (by decide) | exact q1 (by decide) | exact q2 (by decide) | exact q3 (by decide) | exact q4 (by decide) | exact q5 (by decide) | exact q6 (by decide) | exact q7 (by decide) | exact q8 (by decide) | exact q9 (by decide) | exact q10 (by decide) | exact q11 (by decide) | exact q12 (by decide) | exact q13 (by decide) | exact q14 (by decide) | exact q15 (by decide) | exact q16 (by decide) | exact q17 (by decide) | exact r_tup_asym_anti (by decide) | exact r_tup_total_conn (by decide) | exact r_tup_refl_irr_serial_inv (by decide) | exact r_lst_refl_irr_serial_inv (by decide) | exact r_lst_trans_neg_eucl_func (by decide) | exact r_lst_refl_irr (by decide) | exact r_lst_sym_asym (by decide) | exact r_lst_anti_conn (by decide) | exact r_lst_total_full (by decide) | exact r_lst_ident_one (by decide) | apply V2.mem | apply V2.nmem | fail)
local macro_rules | `(tactic| walk_at "ev1") => `(tactic| first | exact Ev.con | assumption | exact Ev.var rfl (by walk_at "lfgo") | exact Ev.varL rfl | apply Ev.and | apply Ev.or | apply Ev.chain | apply Ev.not rfl | apply Ev.call1 rfl rfl rfl | apply Ev.call2 rfl rfl rfl rfl | apply Ev.call3 rfl rfl rfl rfl rfl | apply Ev.call4 rfl rfl rfl rfl rfl rfl | apply Ev.call5 rfl rfl rfl rfl rfl rfl rfl | apply Ev.call0 rfl rfl | walk_at "ite" | apply Ev.one rfl | apply Ev.two rfl rfl | exact Ev.tup0 | exact Ev.lst0 | apply Ev.tup1 | apply Ev.tup2 | apply Ev.tup4 | apply Ev.lst2 | apply Ev.lst3 | apply Ev.lst4 | walk_at "vgo" | apply_assumption | fail)
local macro_rules | `(tactic| walk_at "evgo") => `(tactic| repeat' (walk_at "ev1"))
local macro_rules | `(tactic| walk_at "ite") => `(tactic| first | (apply Ev.iteT; (· walk_at "evgo"); (· walk_at "trT")) | (apply Ev.iteF; (· walk_at "evgo"); (· walk_at "trF")) | fail)
local macro_rules | `(tactic| walk_at "st1") => `(tactic| first | exact Sts.nil | (apply Sts.rt; apply St.ret; walk_at "evgo") | (apply Sts.cons; (· (apply St.skip; (· walk_at "evgo"); (· walk_at "trF")))) | (apply Sts.rt; apply St.iffT; (· walk_at "evgo"); (· walk_at "trT")) | (apply Sts.cons; (· (apply St.set; (· walk_at "evgo")))) | (apply Sts.cons; (· (apply St.par2; (· walk_at "evgo"); (· walk_at "evgo"); (· rfl)))) | (apply Sts.cons; (· (apply St.unp; (· walk_at "evgo"); (· rfl)))) | fail)
local macro_rules | `(tactic| walk_at "stgo") => `(tactic| repeat' (walk_at "st1"))
/-! ### _law_bent -/
/-- tuples of ints and texts -/
def sv : Nat → T → Prop
  | _, .int _ => True
  | _, .str _ => True
  | n + 1, .tup xs => ∀ x ∈ xs, sv n x
  | _, _ => False
theorem cut_sub {xs : List T} {lo hi : Option Int} : (∀ x ∈ cut xs lo hi, x ∈ xs) ∧ (cut xs lo hi).length ≤ xs.length := by
  unfold cut
  refine ⟨fun x hx => List.mem_of_mem_drop (List.mem_of_mem_take hx), ?_⟩
  rw [List.length_take, List.length_drop]
  omega
theorem idxAt {xs : List T} {x : T} {k : Nat} (h : xs[k]? = some x) : o2 .idx (.lst xs) (.int k) = some x := by
  have hk : k < xs.length := by
    rcases Nat.lt_or_ge k xs.length with q | q
    · exact q
    · rw [List.getElem?_eq_none q] at h; cases h
  have e : ixN xs.length (k : Int) = some k := by unfold ixN; rw [if_pos (by omega), if_pos (by omega)]; simp
  simp only [o2, idxT, e, Option.bind_some, h]
theorem idxAtT {xs : List T} {x : T} {k : Nat} (h : xs[k]? = some x) : o2 .idx (.tup xs) (.int k) = some x := by
  have hk : k < xs.length := by
    rcases Nat.lt_or_ge k xs.length with q | q
    · exact q
    · rw [List.getElem?_eq_none q] at h; cases h
  have e : ixN xs.length (k : Int) = some k := by unfold ixN; rw [if_pos (by omega), if_pos (by omega)]; simp
  simp only [o2, idxT, e, Option.bind_some, h]
theorem strOk0 : PySem.PyData.strOk "0" = true ∧ PySem.PyData.strOk "order" = true ∧ PySem.PyData.strOk "row" = true ∧ PySem.PyData.strOk "to" = true ∧ PySem.PyData.strOk "sym" = true ∧ PySem.PyData.strOk "things" = true := by decide +kernel
section
variable {C : Nat → List T → CR} {cells : List Int} {m n : Nat} {v : T}
theorem Ev.takeAt (hC : TakeC C cells) {s : Sl} {D : T} {k j : Nat} {e : E} {w : Bool} (he : e.asBrw = none) (hr : rd s j = some (D, .ow)) (hD : Dr cells D) (h : Ev G C e s (.int k) w s) (h0 : 0 < k) (h1 : k < 1073741824) : ∃ (r : Nat) (D' : T), Dr cells D' ∧ r < k ∧ Ev G C (.call f_law_take [(.brw j), e]) s (.int r) true (put s j D' .ow) := by
  obtain ⟨r, D', q1, q2, q3⟩ := hC D k hD h0 h1
  exact ⟨r, D', q1, q2, Ev.callIo (F := B_law_take) rfl rfl he hr h q3⟩
/-- one of a written row, drawn -/
theorem pick {s s1 : Sl} {L : E} {vs : List T} {w : Bool} {D : T} {j : Nat} (hC : TakeC C cells) (hL : L.asBrw = none) (h : Ev G C L s (.lst vs) w s1) (hr : rd s1 j = some (D, .ow)) (hD : Dr cells D) (h0 : 0 < vs.length) (h1 : vs.length ≤ 1000) (hd : ∀ x ∈ vs, dv m n x) (hk : ((vs.length : Nat) : Int) = k) : ∃ z w' D', Dr cells D' ∧ dv m n z ∧ Ev G C (.op2 .idx L (.call f_law_take [(.brw j), (.con (.int k))])) s z w' (put s1 j D' .ow) := by
  subst hk
  obtain ⟨r, D', q1, q2, q3⟩ := Ev.takeAt (C := C) (j := j) (e := .con (.int (vs.length : Nat))) hC rfl hr hD Ev.con h0 (by omega)
  exact ⟨vs[r], _, D', q1, hd _ (List.getElem_mem q2), Ev.twoW hL rfl h q3 (idxAt (List.getElem?_eq_getElem q2))⟩
def tL : E := .lst [(.op1 .list (.var 1)), (.op2 .add (.var 1) (.tup [(.con (.int 0))])), (.op2 .upto (.var 1) (.op1 .neg (.con (.int 1)))), (.op1 .rev (.var 1)), (.con (.non)), (.tup [])]
theorem tL_ok {s : Sl} {xs : List T} (hv : dv m (n + 1) (.tup xs)) (hm : m ≤ 900) (hr : rd s 1 = some (.tup xs, .sh)) : ∃ vs w, Ev G C tL s (.lst vs) w s ∧ vs.length = 6 ∧ ∀ x ∈ vs, dv (m + 1) (n + 2) x := by
  have hl := hv.1
  have hlim : xs.length + 1 ≤ LIM := by unfold LIM; omega
  have v1 := Ev.varA (G := G) (C := C) hr
  have e0 : Ev G C (.op1 .list (.var 1)) s (.lst xs) _ s := Ev.oneW (op := .list) rfl v1 rfl
  have e1 : Ev G C (.op2 .add (.var 1) (.tup [(.con (.int 0))])) s (.tup (xs ++ [.int 0])) _ s := Ev.twoW rfl rfl v1 (Ev.tup1 Ev.con) (by simp [o2, addT, hlim])
  have e2 : Ev G C (.op2 .upto (.var 1) (.op1 .neg (.con (.int 1)))) s (.tup (cut xs none (some (-1)))) _ s := Ev.twoW (op := .upto) rfl rfl v1 (Ev.one rfl Ev.con V1.neg1) rfl
  have e3 : Ev G C (.op1 .rev (.var 1)) s (.tup xs.reverse) _ s := Ev.oneW (op := .rev) rfl v1 rfl
  refine ⟨_, _, Ev.lst (.cons e0 (.cons e1 (.cons e2 (.cons e3 (.cons Ev.con (.cons Ev.tup0 .nil)))))) (by simp), by simp, ?_⟩
  intro x hx
  have up : ∀ y ∈ xs, dv (m + 1) (n + 1) y := fun y hy => dv_mono (by omega) (by omega) (hv.2 y hy)
  simp only [List.map_cons, List.map_nil, List.mem_cons, List.not_mem_nil, or_false] at hx
  rcases hx with rfl | rfl | rfl | rfl | rfl | rfl
  · exact ⟨by omega, up⟩
  · refine ⟨by rw [List.length_append]; simp; omega, fun y hy => ?_⟩
    rcases List.mem_append.mp hy with q | q
    · exact up y q
    · rw [List.mem_singleton.mp q]; exact dv_int
  · exact ⟨Nat.le_trans cut_sub.2 (by omega), fun y hy => up y (cut_sub.1 y hy)⟩
  · exact ⟨by rw [List.length_reverse]; omega, fun y hy => up y (List.mem_reverse.mp hy)⟩
  · exact dv_non
  · exact ⟨by simp, by simp⟩
def sL : E := .lst [(.con (.str "order")), (.con (.str "row")), (.con (.str "to")), (.con (.str "sym")), (.con (.str "things"))]
theorem sL_ok {s : Sl} : ∃ vs w, Ev G C sL s (.lst vs) w s ∧ vs.length = 5 ∧ ∀ x ∈ vs, dv m n x := by
  refine ⟨_, _, Ev.lst (.cons Ev.con (.cons Ev.con (.cons Ev.con (.cons Ev.con (.cons Ev.con .nil))))) (by simp), by simp, ?_⟩
  intro x hx
  obtain ⟨_, h1, h2, h3, h4, h5⟩ := strOk0
  simp only [List.map_cons, List.map_nil, List.mem_cons, List.not_mem_nil, or_false] at hx
  rcases hx with rfl | rfl | rfl | rfl | rfl
  · exact dv_str h1
  · exact dv_str h2
  · exact dv_str h3
  · exact dv_str h4
  · exact dv_str h5
def iL : E := .lst [(.con (.int 0)), (.con (.int 1)), (.op2 .add (.var 1) (.con (.int 1))), (.op2 .sub (.var 1) (.con (.int 1))), (.op2 .eq (.var 1) (.con (.int 1))), (.con (.non)), (.con (.str "0")), (.tup [(.var 1)]), (.con (.int 12))]
theorem iL_ok {s : Sl} {i : Int} (hr : rd s 1 = some (.int i, .sh)) : ∃ vs w, Ev G C iL s (.lst vs) w s ∧ vs.length = 9 ∧ ∀ x ∈ vs, dv (m + 1) (n + 1) x := by
  have v1 : Ev G C (.var 1) s (.int i) true s := Ev.var hr Lf.int
  have e2 : Ev G C (.op2 .add (.var 1) (.con (.int 1))) s (.int (i + 1)) _ s := Ev.twoW (op := .add) rfl rfl v1 Ev.con rfl
  have e3 : Ev G C (.op2 .sub (.var 1) (.con (.int 1))) s (.int (i - 1)) _ s := Ev.twoW (op := .sub) rfl rfl v1 Ev.con rfl
  have e4 : Ev G C (.op2 .eq (.var 1) (.con (.int 1))) s (.bl (decide (i = 1))) _ s := Ev.two rfl rfl v1 Ev.con V2.eqI
  refine ⟨_, _, Ev.lst (.cons Ev.con (.cons Ev.con (.cons e2 (.cons e3 (.cons e4 (.cons Ev.con (.cons Ev.con (.cons (Ev.tup1 v1) (.cons Ev.con .nil))))))))) (by simp), by simp, ?_⟩
  intro x hx
  simp only [List.map_cons, List.map_nil, List.mem_cons, List.not_mem_nil, or_false] at hx
  rcases hx with rfl | rfl | rfl | rfl | rfl | rfl | rfl | rfl | rfl
  · exact dv_int
  · exact dv_int
  · exact dv_int
  · exact dv_int
  · exact dv_bl
  · exact dv_non
  · exact dv_str strOk0.1
  · exact ⟨by simp, fun y hy => by rw [List.mem_singleton.mp hy]; exact dv_int⟩
  · exact dv_int
theorem bent_step (hC : TakeC C cells) {D : T} (hm : m ≤ 800) (hv : dv m n v) (hs : sv n v) (hD : Dr cells D)
    (hB : ∀ xs x, v = .tup xs → x ∈ xs → ∀ D, Dr cells D → ∃ D' z w, Dr cells D' ∧ dv (m + 1) n z ∧ C f_law_bent [D, x] = .ok z w [D']) :
    ∃ D' z w, Dr cells D' ∧ dv (m + 1) (n + 1) z ∧ runFn G C B_law_bent [D, v] = .ok z w [D'] := by
  cases v with
  | int i =>
    obtain ⟨vs, w, e, hl, hd⟩ := iL_ok (C := C) (m := m) (n := n) (s := [some (D, .ow), some (.int i, .sh), none]) (i := i) rfl
    obtain ⟨z, w', D', d1, d2, d3⟩ := pick (k := 9) (j := 0) (D := D) hC rfl e rfl hD (by omega) (by omega) hd (by rw [hl]; rfl)
    refine ⟨D', z, w', d1, d2, ?_⟩
    apply run_s (F := B_law_bent) rfl (s0 := [some (D, .ow), some (.int i, .sh), none]) rfl
    · exact Sts.cons (St.skip (Ev.andF (Ev.oneW rfl (Ev.varA rfl) rfl)) Tr.blF) (Sts.cons (St.skip (Ev.oneW rfl (Ev.varA rfl) rfl) Tr.blF) (Sts.cons (St.skip (Ev.oneW rfl (Ev.varA rfl) rfl) Tr.blF) (Sts.rt (St.ret (Ev.iteT (Ev.oneW rfl (Ev.varA rfl) rfl) Tr.blT d3)))))
    · rfl
  | str x =>
    obtain ⟨vs, w, e, hl, hd⟩ := sL_ok (C := C) (m := m + 1) (n := n + 1) (s := [some (D, .ow), some (.str x, .sh), none])
    obtain ⟨z, w', D', d1, d2, d3⟩ := pick (k := 5) (j := 0) (D := D) hC rfl e rfl hD (by omega) (by omega) hd (by rw [hl]; rfl)
    refine ⟨D', z, w', d1, d2, ?_⟩
    apply run_s (F := B_law_bent) rfl (s0 := [some (D, .ow), some (.str x, .sh), none]) rfl
    · exact Sts.cons (St.skip (Ev.andF (Ev.oneW rfl (Ev.varA rfl) rfl)) Tr.blF) (Sts.cons (St.skip (Ev.oneW rfl (Ev.varA rfl) rfl) Tr.blF) (Sts.rt (St.iffT (Ev.oneW rfl (Ev.varA rfl) rfl) Tr.blT (Sts.rt (St.ret d3)))))
    · rfl
  | tup xs =>
    match n, hv, hs with
    | n + 1, hv, hs =>
    have hl := hv.1
    have it : Ev G C (.op1 (.isK .tuple) (.var 1)) [some (D, .ow), some (.tup xs, .sh), none] (.bl true) true [some (D, .ow), some (.tup xs, .sh), none] := Ev.oneW rfl (Ev.varA rfl) rfl
    have low : ∀ D0, Dr cells D0 → ∃ z w' D', Dr cells D' ∧ dv (m + 1) (n + 2) z ∧ Ev G C (.op2 .idx tL (.call f_law_take [(.brw 0), (.con (.int 6))])) [some (D0, .ow), some (.tup xs, .sh), none] z w' [some (D', .ow), some (.tup xs, .sh), none] := fun D0 h0 => by
      obtain ⟨vs, w, e, hl, hd⟩ := tL_ok (C := C) (m := m) (n := n) (s := [some (D0, .ow), some (.tup xs, .sh), none]) hv (by omega) rfl
      exact pick (k := 6) (j := 0) (D := D0) hC rfl e rfl h0 (by omega) (by omega) hd (by rw [hl]; rfl)
    by_cases hx0 : xs.length = 0
    · obtain ⟨z, w', D', d1, d2, d3⟩ := low D hD
      refine ⟨D', z, w', d1, d2, ?_⟩
      have g0 : Ev G C (.op2 .gt (.op1 .len (.var 1)) (.con (.int 0))) [some (D, .ow), some (.tup xs, .sh), none] (.bl false) true [some (D, .ow), some (.tup xs, .sh), none] := Ev.as (Ev.two rfl rfl (Ev.one rfl (Ev.varA rfl) lenO) Ev.con V2.gt) (by rw [hx0]; rfl)
      apply run_s (F := B_law_bent) rfl (s0 := [some (D, .ow), some (.tup xs, .sh), none]) rfl
      · exact Sts.cons (St.skip (Ev.andT it (Ev.andF g0)) Tr.blF) (Sts.rt (St.iffT it Tr.blT (Sts.rt (St.ret d3))))
      · rfl
    · have g0 : Ev G C (.op2 .gt (.op1 .len (.var 1)) (.con (.int 0))) [some (D, .ow), some (.tup xs, .sh), none] (.bl true) true [some (D, .ow), some (.tup xs, .sh), none] := Ev.as (Ev.two rfl rfl (Ev.one rfl (Ev.varA rfl) lenO) Ev.con V2.gt) (by rw [decide_eq_true_eq]; omega)
      obtain ⟨r1, D1, b1, b2, b3⟩ := Ev.takeAt (C := C) (j := 0) (e := .con (.int 4)) (s := [some (D, .ow), some (.tup xs, .sh), none]) (k := 4) hC rfl rfl hD Ev.con (by decide) (by decide)
      have b3 : Ev G C (.call f_law_take [(.brw 0), (.con (.int 4))]) [some (D, .ow), some (.tup xs, .sh), none] (.int r1) true [some (D1, .ow), some (.tup xs, .sh), none] := b3
      have g1 : Ev G C (.op2 .gt (.call f_law_take [(.brw 0), (.con (.int 4))]) (.con (.int 0))) [some (D, .ow), some (.tup xs, .sh), none] (.bl (decide ((0 : Int) < r1))) true [some (D1, .ow), some (.tup xs, .sh), none] := Ev.two rfl rfl b3 Ev.con V2.gt
      by_cases hr1 : (0 : Int) < r1
      · have g1 := Ev.as (q := true) g1 (by simpa using hr1)
        obtain ⟨at_, D2, c1, c2, c3⟩ := Ev.takeAt (C := C) (j := 0) (e := .op1 .len (.var 1)) (s := [some (D1, .ow), some (.tup xs, .sh), none]) (k := xs.length) hC rfl rfl b1 (Ev.one rfl (Ev.varA rfl) lenO) (by omega) (by omega)
        have c3 : Ev G C (.call f_law_take [(.brw 0), (.op1 .len (.var 1))]) [some (D1, .ow), some (.tup xs, .sh), none] (.int at_) true [some (D2, .ow), some (.tup xs, .sh), none] := c3
        obtain ⟨D3, z, w, e1, e2, e3⟩ := hB xs xs[at_] rfl (List.getElem_mem c2) D2 c1
        have ix : Ev G C (.op2 .idx (.var 1) (.var 2)) [some (D2, .ow), some (.tup xs, .sh), some (.int at_, .sh)] xs[at_] _ [some (D2, .ow), some (.tup xs, .sh), some (.int at_, .sh)] := Ev.twoW (op := .idx) rfl rfl (Ev.varA rfl) (Ev.var rfl Lf.int) (idxAtT (List.getElem?_eq_getElem c2))
        have cb : Ev G C (.call f_law_bent [(.brw 0), (.op2 .idx (.var 1) (.var 2))]) [some (D2, .ow), some (.tup xs, .sh), some (.int at_, .sh)] z w [some (D3, .ow), some (.tup xs, .sh), some (.int at_, .sh)] := Ev.callIo (F := B_law_bent) rfl rfl rfl rfl ix e3
        have up : Ev G C (.op2 .upto (.var 1) (.var 2)) [some (D2, .ow), some (.tup xs, .sh), some (.int at_, .sh)] (.tup (cut xs none (some (at_ : Nat)))) _ [some (D2, .ow), some (.tup xs, .sh), some (.int at_, .sh)] := Ev.twoW (op := .upto) rfl rfl (Ev.varA rfl) (Ev.var rfl Lf.int) rfl
        have ls1 := (cut_sub (xs := xs) (lo := none) (hi := some (at_ : Nat))).2
        have ls2 := (cut_sub (xs := xs) (lo := some ((at_ : Int) + 1)) (hi := none)).2
        have hlim : (cut xs none (some (at_ : Nat))).length + 1 ≤ LIM := by unfold LIM; omega
        have a1 : Ev G C (.op2 .add (.op2 .upto (.var 1) (.var 2)) (.tup [(.call f_law_bent [(.brw 0), (.op2 .idx (.var 1) (.var 2))])])) [some (D2, .ow), some (.tup xs, .sh), some (.int at_, .sh)] (.tup (cut xs none (some (at_ : Nat)) ++ [z])) _ [some (D3, .ow), some (.tup xs, .sh), some (.int at_, .sh)] :=
          Ev.twoW (op := .add) rfl rfl up (Ev.tup1 cb) (by simp [o2, addT, hlim])
        have fr : Ev G C (.op2 .from (.var 1) (.op2 .add (.var 2) (.con (.int 1)))) [some (D3, .ow), some (.tup xs, .sh), some (.int at_, .sh)] (.tup (cut xs (some ((at_ : Int) + 1)) none)) _ [some (D3, .ow), some (.tup xs, .sh), some (.int at_, .sh)] :=
          Ev.twoW (op := .from) rfl rfl (Ev.varA rfl) (Ev.twoW (op := .add) (z := .int ((at_ : Int) + 1)) rfl rfl (Ev.var rfl Lf.int) Ev.con rfl) rfl
        have hlim2 : (cut xs none (some (at_ : Nat))).length + 1 + (cut xs (some ((at_ : Int) + 1)) none).length ≤ LIM := by unfold LIM; omega
        have a2 : Ev G C (.op2 .add (.op2 .add (.op2 .upto (.var 1) (.var 2)) (.tup [(.call f_law_bent [(.brw 0), (.op2 .idx (.var 1) (.var 2))])])) (.op2 .from (.var 1) (.op2 .add (.var 2) (.con (.int 1))))) [some (D2, .ow), some (.tup xs, .sh), some (.int at_, .sh)] (.tup (cut xs none (some (at_ : Nat)) ++ [z] ++ cut xs (some ((at_ : Int) + 1)) none)) _ [some (D3, .ow), some (.tup xs, .sh), some (.int at_, .sh)] :=
          Ev.twoW (op := .add) rfl rfl a1 fr (by
            simp only [o2, addT, List.length_append, List.length_singleton]
            rw [if_pos hlim2])
        refine ⟨D3, .tup (cut xs none (some (at_ : Nat)) ++ [z] ++ cut xs (some ((at_ : Int) + 1)) none), O2.add.rk.own (.tup (cut xs none (some (at_ : Nat)) ++ [z] ++ cut xs (some ((at_ : Int) + 1)) none)), e1, ?_, ?_⟩
        rotate_left
        · apply run_s (F := B_law_bent) rfl (s0 := [some (D, .ow), some (.tup xs, .sh), none]) rfl
          · exact Sts.rt (St.iffT (Ev.andT it (Ev.andT g0 g1)) Tr.blT (Sts.cons (St.set c3) (Sts.rt (St.ret a2))))
          · rfl
        · have eu : cut xs none (some (at_ : Nat)) = xs.take at_ := by
            have : sIx xs.length xs.length (some ((at_ : Nat) : Int)) = min at_ xs.length := by
              simp only [sIx]
              rw [if_neg (by omega), Int.toNat_natCast]
            unfold cut
            rw [this]
            show (xs.drop 0).take (min at_ xs.length - 0) = _
            rw [List.drop_zero, Nat.sub_zero]
            congr 1
            omega
          have ed : (cut xs (some ((at_ : Int) + 1)) none).length ≤ xs.length - (at_ + 1) := by
            have : sIx xs.length 0 (some ((at_ : Int) + 1)) = min (at_ + 1) xs.length := by
              simp only [sIx]
              rw [if_neg (by omega)]
              congr 1
            unfold cut
            rw [this, List.length_take, List.length_drop]
            omega
          refine ⟨?_, fun y hy => ?_⟩
          · rw [List.length_append, List.length_append, List.length_singleton, eu, List.length_take]
            omega
          · have upm : ∀ y ∈ xs, dv (m + 1) (n + 1) y := fun y hy => dv_mono (by omega) (by omega) (hv.2 y hy)
            rcases List.mem_append.mp hy with q | q
            · rcases List.mem_append.mp q with q | q
              · exact upm y (cut_sub.1 y q)
              · rw [List.mem_singleton.mp q]; exact e2
            · exact upm y (cut_sub.1 y q)
      · have g1 := Ev.as (q := false) g1 (by simpa using hr1)
        obtain ⟨z, w', D', d1, d2, d3⟩ := low D1 b1
        have it1 : Ev G C (.op1 (.isK .tuple) (.var 1)) [some (D1, .ow), some (.tup xs, .sh), none] (.bl true) true [some (D1, .ow), some (.tup xs, .sh), none] := Ev.oneW rfl (Ev.varA rfl) rfl
        refine ⟨D', z, w', d1, d2, ?_⟩
        apply run_s (F := B_law_bent) rfl (s0 := [some (D, .ow), some (.tup xs, .sh), none]) rfl
        · exact Sts.cons (St.skip (Ev.andT it (Ev.andT g0 g1)) Tr.blF) (Sts.rt (St.iffT it1 Tr.blT (Sts.rt (St.ret d3))))
        · rfl
  | _ => cases n <;> exact hs.elim
end
/-- .. so many calls deep -/
theorem c_bent (cells : List Int) (q : Nat) : ∀ (n m : Nat) (v D : T), m ≤ 800 → dv m n v → sv n v → Dr cells D → ∃ D' z w, Dr cells D' ∧ dv (m + 1) (n + 1) z ∧ CL (q + n + 2) f_law_bent [D, v] = .ok z w [D']
  | 0, m, v, D, hm, hv, hs, hD => by
    obtain ⟨D', z, w, h1, h2, h3⟩ := bent_step (C := CL (q + 1)) (c_take q cells) hm hv hs hD (fun xs x e => by subst e; exact hv.elim)
    exact ⟨D', z, w, h1, h2, cio (F := B_law_bent) rfl h3⟩
  | n + 1, m, v, D, hm, hv, hs, hD => by
    obtain ⟨D', z, w, h1, h2, h3⟩ := bent_step (C := CL (q + n + 2)) (c_take (q + n + 1) cells) hm hv hs hD (fun xs x e hx D hD => by
      subst e
      exact c_bent cells q n m x D hm (hv.2 x hx) (hs x hx) hD)
    exact ⟨D', z, w, h1, h2, cio (F := B_law_bent) rfl h3⟩

local macro_rules | `(tactic| walk_at "lfgo") => `(tactic| first | exact Lf.int | exact Lf.bl | exact Lf.nums | exact lfT | exact Lf.non | exact Lf.str | exact Lf.wd (by first | decide | assumption) | assumption)
local macro_rules | `(tactic| walk_at "trT") => `(tactic| first | exact Tr.blT | (apply Tr.of; decide) | (apply Tr.of; rfl) | (apply Tr.of; simp only [*]; done) | (apply Tr.of; simp only [*]; rfl) | fail)
local macro_rules | `(tactic| walk_at "trF") => `(tactic| first | exact Tr.blF | (apply Tr.of; decide) | (apply Tr.of; rfl) | (apply Tr.of; simp only [*]; done) | (apply Tr.of; simp only [*]; rfl) | fail)
local macro_rules | `(tactic| walk_at "vgo") => `(tactic| first | exact V2.eqN | exact V2.eqI | exact V2.neN | exact V2.eqB | exact V2.neB | exact idT (by assumption) | exact ix0 | exact ix1 | exact ix2 | exact ixL rfl | exact V1.neg1 | exact V2.lt | exact V2.le | exact V2.gt | exact V2.ge | exact V1.lenN | exact V1.lenNl | exact V1.isTup | exact V1.isInt | exact V1.isBoolI | exact V1.isBoolB | exact V1.isNn | exact V1.isNt | exact V1.notNn | exact V1.notNt | exact V1.isStr (by first | decide | assumption) | exact Mm.nm | exact Mm.nmt | exact q0 (by decide) | exact q1 (by decide) | exact q2 (by decide) | exact q3 (by decide) | exact q4 (by decide) | exact q5 (by decide) | exact q6 (by decide) | exact q7 (by decide) | exact q8 (by decide) | exact q9 (by decide) | exact q10 (by decide) | exact q11 (by decide) | exact q12 (by decide) | exact q13 (by decide) | exact q14 (by decide) | exact q15 (by decide) | exact q16 (by decide) | exact q17 (by decide) | exact r_tup_asym_anti (by decide) | exact r_tup_total_conn (by decide) | exact r_tup_refl_irr_serial_inv (by decide) | exact r_lst_refl_irr_serial_inv (by decide) | exact r_lst_trans_neg_eucl_func (by decide) | exact r_lst_refl_irr (by decide) | exact r_lst_sym_asym (by decide) | exact r_lst_anti_conn (by decide) | exact r_lst_total_full (by decide) | exact r_lst_ident_one (by decide) | apply V2.mem | apply V2.nmem | fail)
local macro_rules | `(tactic| walk_at "ev1") => `(tactic| first | exact Ev.con | assumption | exact Ev.var rfl (by walk_at "lfgo") | exact Ev.varL rfl | apply Ev.and | apply Ev.or | apply Ev.chain | apply Ev.not rfl | apply Ev.call1 rfl rfl rfl | apply Ev.call2 rfl rfl rfl rfl | apply Ev.call3 rfl rfl rfl rfl rfl | apply Ev.call4 rfl rfl rfl rfl rfl rfl | apply Ev.call5 rfl rfl rfl rfl rfl rfl rfl | apply Ev.call0 rfl rfl | walk_at "ite" | apply Ev.one rfl | apply Ev.two rfl rfl | exact Ev.tup0 | exact Ev.lst0 | apply Ev.tup1 | apply Ev.tup2 | apply Ev.tup4 | apply Ev.lst2 | apply Ev.lst3 | apply Ev.lst4 | walk_at "vgo" | apply_assumption | fail)
local macro_rules | `(tactic| walk_at "evgo") => `(tactic| repeat' (walk_at "ev1"))
local macro_rules | `(tactic| walk_at "ite") => `(tactic| first | (apply Ev.iteT; (· walk_at "evgo"); (· walk_at "trT")) | (apply Ev.iteF; (· walk_at "evgo"); (· walk_at "trF")) | fail)
local macro_rules | `(tactic| walk_at "st1") => `(tactic| first | exact Sts.nil | (apply Sts.rt; apply St.ret; walk_at "evgo") | (apply Sts.cons; (· (apply St.skip; (· walk_at "evgo"); (· walk_at "trF")))) | (apply Sts.rt; apply St.iffT; (· walk_at "evgo"); (· walk_at "trT")) | (apply Sts.cons; (· (apply St.set; (· walk_at "evgo")))) | (apply Sts.cons; (· (apply St.par2; (· walk_at "evgo"); (· walk_at "evgo"); (· rfl)))) | (apply Sts.cons; (· (apply St.unp; (· walk_at "evgo"); (· rfl)))) | fail)
local macro_rules | `(tactic| walk_at "stgo") => `(tactic| repeat' (walk_at "st1"))
/-! ### the law -/
def dvB (m : Nat) : Nat → T → Bool
  | _, .non => true
  | _, .bl _ => true
  | _, .int _ => true
  | _, .str x => PySem.PyData.strOk x
  | n + 1, .tup xs => decide (xs.length ≤ m) && xs.all fun x => dvB m n x
  | n + 1, .lst xs => decide (xs.length ≤ m) && xs.all fun x => dvB m n x
  | _, _ => false
theorem dv_of {m : Nat} : ∀ {n : Nat} {v : T}, dvB m n v = true → dv m n v
  | n, .non, _ => dv_non
  | n, .bl _, _ => dv_bl
  | n, .int _, _ => dv_int
  | n, .str _, h => dv_str (by cases n <;> exact h)
  | n + 1, .tup xs, h => by
    rw [dvB, Bool.and_eq_true, decide_eq_true_eq, List.all_eq_true] at h
    exact ⟨h.1, fun x hx => dv_of (h.2 x hx)⟩
  | n + 1, .lst xs, h => by
    rw [dvB, Bool.and_eq_true, decide_eq_true_eq, List.all_eq_true] at h
    exact ⟨h.1, fun x hx => dv_of (h.2 x hx)⟩
  | 0, .tup _, h => by simp [dvB] at h
  | 0, .lst _, h => by simp [dvB] at h
  | n, .frz _, h => by cases n <;> simp [dvB] at h
  | n, .dic _ _, h => by cases n <;> simp [dvB] at h
  | n, .fn _, h => by cases n <;> simp [dvB] at h
  | n, .exn _ _, h => by cases n <;> simp [dvB] at h
theorem dv_wd {i m n : Nat} (h : i < 18) : dv m n (wd i) := by
  obtain ⟨s, e⟩ := wd_of h
  have := (wd_pd' h).1
  rw [e] at this ⊢
  exact dv_str (by simpa [T.pd] using this)
theorem sv_wd {i n : Nat} (h : i < 18) : sv n (wd i) := by
  obtain ⟨s, e⟩ := wd_of h
  rw [e]
  cases n <;> trivial
theorem sv_nums {n : Nat} {l : List Nat} : sv (n + 1) (.tup (nums l)) := fun x hx => by
  obtain ⟨k, _, rfl⟩ := List.mem_map.mp hx
  cases n <;> trivial
section
variable {C : Nat → List T → CR} {cells : List Int} {t : List Nat}
/-- an expression that changes nothing, its value data -/
def El (C : Nat → List T → CR) (s : Sl) (e : E) : Prop := ∃ x w, Ev G C e s x w s ∧ dv 20 6 x
theorem els {s : Sl} : ∀ {es : List E}, (∀ e ∈ es, El C s e) → ∃ xs, Evs G C es s xs s ∧ xs.length = es.length ∧ ∀ p ∈ xs, dv 20 6 p.1
  | [], _ => ⟨[], .nil, rfl, by simp⟩
  | e :: es, h => by
    obtain ⟨x, w, h1, h2⟩ := h e (by simp)
    obtain ⟨xs, q1, q2, q3⟩ := els fun f hf => h f (List.mem_cons_of_mem _ hf)
    refine ⟨(x, w) :: xs, .cons h1 q1, by simp [q2], fun p hp => ?_⟩
    rcases List.mem_cons.mp hp with q | q
    · rw [q]; exact h2
    · exact q3 p q
theorem addLst {a b : List T} (h : a.length + b.length ≤ 100000) : o2 .add (.lst a) (.lst b) = some (.lst (a ++ b)) := by
  have : a.length + b.length ≤ LIM := Nat.le_trans h (by decide)
  simp only [o2, addT, if_pos this]
theorem addTup {a b : List T} (h : a.length + b.length ≤ 100000) : o2 .add (.tup a) (.tup b) = some (.tup (a ++ b)) := by
  have : a.length + b.length ≤ LIM := Nat.le_trans h (by decide)
  simp only [o2, addT, if_pos this]
/-- values = values + [..] -/
theorem more {s s2 : Sl} {es : List E} {vs : List T} {xs : List (T × Bool)} (hr : rd s 6 = some (.lst vs, .sh)) (h : Evs G C es s xs s2) (hl : vs.length ≤ 5000) (hl2 : xs.length ≤ 1000) : St G C (.set 6 (.op2 .add (.var 6) (.lst es))) s (.nx (put s2 6 (.lst (vs ++ xs.map (·.1))) .sh)) :=
  St.set (Ev.twoW rfl rfl (Ev.varA hr) (Ev.lst h hl2) (addLst (by rw [List.length_map]; omega)))
theorem uptoN {u : List Nat} {k : Nat} : o2 .upto (.tup (nums u)) (.int k) = some (.tup (nums (u.take k))) := by
  have e : sIx (nums u).length (nums u).length (some (k : Int)) = min k (nums u).length := by simp [sIx]; intro h; omega
  simp only [o2, cutT, cut, e]
  show some (T.tup (((nums u).drop 0).take (min k (nums u).length - 0))) = _
  rw [List.drop_zero, Nat.sub_zero]
  congr 2
  rw [nums_len]
  unfold nums
  rw [← List.map_take]
  congr 1
  rcases Nat.le_total k u.length with h | h
  · rw [Nat.min_eq_left h]
  · rw [Nat.min_eq_right h, List.take_of_length_le (Nat.le_refl _), List.take_of_length_le h]
def sK (F D : T) (t : List Nat) (mm : Nat) (z3 : Option (T × Ow)) (vs : List T) (z7 z8 z9 : Option (T × Ow)) : Sl := [some (F, .sh), some (D, .ow), some (tieT t, .sh), z3, none, some (.int mm, .sh), some (.lst vs, .sh), z7, z8, z9, none, none]
theorem row_ok (hC : TakeC C cells) {F D : T} {mm : Nat} {z3 z7 z8 z9 : Option (T × Ow)} {vs : List T} (hD : Dr cells D) (h0 : 0 < mm) (h1 : mm ≤ 1000) : ∃ D' l, Dr cells D' ∧ l.length = 5 ∧ Ev G C (.op1 .tuple (.lc (.nm 11) (.op1 .rng (.con (.int 5))) [] (.call f_law_take [(.brw 1), (.var 5)]) [11])) (sK F D t mm z3 vs z7 z8 z9) (.tup (nums l)) true (sK F D' t mm z3 vs z7 z8 z9) := by
  obtain ⟨ys, s', p1, ⟨D1, z, hD1, rfl⟩, p3, p4⟩ := lcGo_inv (own := [11]) (tg := .nm 11) (body := fun s3 => evc G C [] s3 fun s4 => (ev G C (.call f_law_take [(.brw 1), (.var 5)]) s4).bind fun y s5 => .ok [y] s5)
    (fun s => ∃ D z, Dr cells D ∧ s = [some (F, .sh), some (D, .ow), some (tieT t, .sh), z3, none, some (.int mm, .sh), some (.lst vs, .sh), z7, z8, z9, none, z]) (fun y => ∃ j : Nat, y = (.int j, true)) (nums (List.range 5)) (sK F D t mm z3 vs z7 z8 z9) ⟨D, none, hD, rfl⟩ (by
    intro s x hs hx
    obtain ⟨D, z, hD, rfl⟩ := hs
    obtain ⟨v, D', d1, d2, d3⟩ := Ev.takeAt (j := 1) hC (s := [some (F, .sh), some (D, .ow), some (tieT t, .sh), z3, none, some (.int mm, .sh), some (.lst vs, .sh), z7, z8, z9, none, some (x, .sh)]) (e := .var 5) rfl rfl hD (Ev.var rfl Lf.int) h0 (by omega)
    refine ⟨[some (F, .sh), some (D, .ow), some (tieT t, .sh), z3, none, some (.int mm, .sh), some (.lst vs, .sh), z7, z8, z9, none, some (x, .sh)], (.int v, true), [some (F, .sh), some (D', .ow), some (tieT t, .sh), z3, none, some (.int mm, .sh), some (.lst vs, .sh), z7, z8, z9, none, some (x, .sh)], rfl, ?_, ⟨D', _, d1, rfl⟩, v, rfl⟩
    rw [evc, d3.h]
    rfl)
  obtain ⟨lv, el, hlen⟩ := nums_of ys p3
  have hlv : lv.length = 5 := by rw [hlen, p4, nums_len, List.length_range]
  have rg : Ev G C (.op1 .rng (.con (.int 5))) (sK F D t mm z3 vs z7 z8 z9) (.lst (nums (List.range 5))) true (sK F D t mm z3 vs z7 z8 z9) := Ev.one rfl Ev.con (V1.rng (n := 5) (by decide))
  have hle : ys.length ≤ LIM := by rw [p4, nums_len, List.length_range]; decide
  have q := ev_lcX (C := C) (cs := []) (elt := .call f_law_take [(.brw 1), (.var 5)]) (tg := .nm 11) (own := [11]) (ag_of rfl rg.h) rfl rfl p1 hle
  have e1 : ys.map (·.1) = nums lv := by rw [el, List.map_map]; rfl
  rw [e1, nums_lf] at q
  have q : Ev G C (.lc (.nm 11) (.op1 .rng (.con (.int 5))) [] (.call f_law_take [(.brw 1), (.var 5)]) [11]) (sK F D t mm z3 vs z7 z8 z9) (.lst (nums lv)) true (sK F D1 t mm z3 vs z7 z8 z9) := ⟨by rw [q]; rfl⟩
  exact ⟨D1, lv, hD1, hlv, Ev.one (op := .tuple) rfl q ⟨rfl, by
    show T.inner (.tup (nums lv)) = true
    rw [T.inner]; exact nums_lf _⟩⟩
theorem ring_ok (hC : TakeC C cells) (hO : OrderC C cells) (hT : Tie t) {F D : T} {mm : Nat} {z3 z7 z8 z9 : Option (T × Ow)} {vs : List T} (hD : Dr cells D) : ∃ D' l, Dr cells D' ∧ l.length ≤ 6 ∧ Ev G C (.op2 .upto (.op1 .tuple (.call f_law_order [(.brw 1), (.op1 .len (.var 2))])) (.op2 .add (.con (.int 1)) (.call f_law_take [(.brw 1), (.con (.int 4))]))) (sK F D t mm z3 vs z7 z8 z9) (.tup (nums l)) true (sK F D' t mm z3 vs z7 z8 z9) := by
  obtain ⟨D1, od, hD1, hod, ho⟩ := hO D t.length hD hT.six
  have e1 : Ev G C (.call f_law_order [(.brw 1), (.op1 .len (.var 2))]) (sK F D t mm z3 vs z7 z8 z9) (.lst (nums od)) true (sK F D1 t mm z3 vs z7 z8 z9) := Ev.callIo (F := B_law_order) rfl rfl rfl rfl (Ev.one rfl (Ev.var rfl lfT) V1.lenN) ho
  have e2 : Ev G C (.op1 .tuple (.call f_law_order [(.brw 1), (.op1 .len (.var 2))])) (sK F D t mm z3 vs z7 z8 z9) (.tup (nums od)) true (sK F D1 t mm z3 vs z7 z8 z9) := Ev.one (op := .tuple) rfl e1 ⟨rfl, by
    show T.inner (.tup (nums od)) = true
    rw [T.inner]; exact nums_lf _⟩
  obtain ⟨r, D2, hD2, _, e3⟩ := Ev.takeAt (j := 1) (k := 4) (e := .con (.int 4)) hC (s := sK F D1 t mm z3 vs z7 z8 z9) rfl rfl hD1 Ev.con (by decide) (by decide)
  have e3 : Ev G C (.call f_law_take [(.brw 1), (.con (.int 4))]) (sK F D1 t mm z3 vs z7 z8 z9) (.int r) true (sK F D2 t mm z3 vs z7 z8 z9) := e3
  refine ⟨D2, od.take (1 + r), hD2, ?_, Ev.two rfl rfl e2 (Ev.two rfl rfl Ev.con e3 (addN (a := 1))) ⟨uptoN, by
    show T.inner (.tup (nums (od.take (1 + r)))) = true
    rw [T.inner]; exact nums_lf _⟩⟩
  rw [List.length_take]
  have := hT.six
  omega
def BentC (C : Nat → List T → CR) (cells : List Int) : Prop := ∀ (v D : T), dv 10 2 v → sv 2 v → Dr cells D → ∃ D' z w, Dr cells D' ∧ dv 11 3 z ∧ C f_law_bent [D, v] = .ok z w [D']
theorem told_ok (hB : BentC C cells) {F D : T} {mm i : Nat} {z7 z8 z9 : Option (T × Ow)} {vs xs : List T} (hD : Dr cells D) (hv : dv 10 2 (.tup xs)) (hs : sv 2 (.tup xs)) : ∃ D' ys, Dr cells D' ∧ Evs G C [(.var 7), (.call f_law_bent [(.brw 1), (.var 7)]), (.call f_law_bent [(.brw 1), (.var 7)]), (.op2 .upto (.var 7) (.op1 .neg (.con (.int 1)))), (.op2 .add (.var 7) (.tup [(.con (.int 0))])), (.op1 .list (.var 7))] (sK F D t mm (some (wd i, .sh)) vs (some (.tup xs, .sh)) z8 z9) ys (sK F D' t mm (some (wd i, .sh)) vs (some (.tup xs, .sh)) z8 z9) ∧ ys.length = 6 ∧ ∀ p ∈ ys, dv 20 6 p.1 := by
  obtain ⟨D1, b1, w1, hD1, d1, c1⟩ := hB _ D hv hs hD
  obtain ⟨D2, b2, w2, hD2, d2, c2⟩ := hB _ D1 hv hs hD1
  have hl := hv.1
  have e1 : Ev G C (.call f_law_bent [(.brw 1), (.var 7)]) (sK F D t mm (some (wd i, .sh)) vs (some (.tup xs, .sh)) z8 z9) b1 w1 (sK F D1 t mm (some (wd i, .sh)) vs (some (.tup xs, .sh)) z8 z9) := Ev.callIo (F := B_law_bent) rfl rfl rfl rfl (Ev.varA rfl) c1
  have e2 : Ev G C (.call f_law_bent [(.brw 1), (.var 7)]) (sK F D1 t mm (some (wd i, .sh)) vs (some (.tup xs, .sh)) z8 z9) b2 w2 (sK F D2 t mm (some (wd i, .sh)) vs (some (.tup xs, .sh)) z8 z9) := Ev.callIo (F := B_law_bent) rfl rfl rfl rfl (Ev.varA rfl) c2
  have e3 : Ev G C (.op2 .upto (.var 7) (.op1 .neg (.con (.int 1)))) (sK F D2 t mm (some (wd i, .sh)) vs (some (.tup xs, .sh)) z8 z9) (.tup (cut xs none (some (-1)))) _ _ := Ev.twoW (op := .upto) rfl rfl (Ev.varA rfl) (Ev.one rfl Ev.con V1.neg1) rfl
  have e4 : Ev G C (.op2 .add (.var 7) (.tup [(.con (.int 0))])) (sK F D2 t mm (some (wd i, .sh)) vs (some (.tup xs, .sh)) z8 z9) (.tup (xs ++ [.int 0])) _ _ := Ev.twoW rfl rfl (Ev.varA rfl) (Ev.tup1 Ev.con) (addTup (by simp; omega))
  have e5 : Ev G C (.op1 .list (.var 7)) (sK F D2 t mm (some (wd i, .sh)) vs (some (.tup xs, .sh)) z8 z9) (.lst xs) _ _ := Ev.oneW (op := .list) rfl (Ev.varA rfl) rfl
  refine ⟨D2, _, hD2, .cons (Ev.varA rfl) (.cons e1 (.cons e2 (.cons e3 (.cons e4 (.cons e5 .nil))))), rfl, ?_⟩
  have up : ∀ y ∈ xs, dv 20 5 y := fun y hy => dv_mono (by decide) (by decide) (hv.2 y hy)
  intro p hp
  simp only [List.mem_cons, List.not_mem_nil, or_false] at hp
  rcases hp with rfl | rfl | rfl | rfl | rfl | rfl
  · exact dv_mono (by decide) (by decide) hv
  · exact dv_mono (by decide) (by decide) d1
  · exact dv_mono (by decide) (by decide) d2
  · exact ⟨Nat.le_trans cut_sub.2 (by omega), fun y hy => up y (cut_sub.1 y hy)⟩
  · refine ⟨by rw [List.length_append]; simp; omega, fun y hy => ?_⟩
    rcases List.mem_append.mp hy with q | q
    · exact up y q
    · rw [List.mem_singleton.mp q]; exact dv_int
  · exact ⟨by omega, up⟩
/-! the rows that are written for a word -/
section
variable {F D : T} {mm i : Nat} {z7 : Option (T × Ow)} {vs : List T} {l rg : List Nat}
abbrev sR (F D : T) (t : List Nat) (mm i : Nat) (vs : List T) (z7 : Option (T × Ow)) (l rg : List Nat) : Sl := sK F D t mm (some (wd i, .sh)) vs z7 (some (.tup (nums l), .sh)) (some (.tup (nums rg), .sh))
theorem w3 (hi : i < 18) : Ev G C (.var 3) (sR F D t mm i vs z7 l rg) (wd i) true (sR F D t mm i vs z7 l rg) := Ev.var rfl (Lf.wd hi)
theorem dv_cons {x : T} {xs : List T} (hx : dv 20 5 x) (h : ∀ y ∈ xs, dv 20 5 y) (hl : xs.length ≤ 19) : dv 20 6 (.tup (x :: xs)) := ⟨by simp; omega, fun y hy => by
  rcases List.mem_cons.mp hy with q | q
  · rw [q]; exact hx
  · exact h y q⟩
theorem dvn {a : List Nat} : ∀ y ∈ nums a, dv 20 5 y := fun y hy => by
  obtain ⟨k, _, rfl⟩ := List.mem_map.mp hy
  exact dv_int
theorem el_row (hi : i < 18) (hl : l.length = 5) (k : Nat) : El C (sR F D t mm i vs z7 l rg) (.op2 .add (.tup [(.var 3)]) (.op2 .upto (.var 8) (.con (.int k)))) :=
  ⟨_, _, Ev.twoW rfl rfl (Ev.tup1 (w3 hi)) (Ev.twoW rfl rfl (Ev.var rfl Lf.nums) Ev.con uptoN) (addTup (by rw [nums_len, List.length_take]; simp; omega)), dv_cons (dv_wd hi) dvn (by show (nums _).length ≤ 19; rw [nums_len, List.length_take]; omega)⟩
theorem el_all (hi : i < 18) (hl : l.length = 5) : El C (sR F D t mm i vs z7 l rg) (.op2 .add (.tup [(.var 3)]) (.var 8)) :=
  ⟨_, _, Ev.twoW rfl rfl (Ev.tup1 (w3 hi)) (Ev.var rfl Lf.nums) (addTup (by rw [nums_len]; simp; omega)), dv_cons (dv_wd hi) dvn (by show (nums _).length ≤ 19; rw [nums_len]; omega)⟩
theorem ix_ok (hl : l.length = 5) {k : Nat} (hk : k < 5) : ∃ a : Nat, Ev G C (.op2 .idx (.var 8) (.con (.int k))) (sR F D t mm i vs z7 l rg) (.int a) true (sR F D t mm i vs z7 l rg) :=
  ⟨l[k], Ev.two rfl rfl (Ev.var rfl Lf.nums) Ev.con (V2.idxN (List.getElem?_eq_getElem (by omega)))⟩
theorem el_tup (hi : i < 18) {es : List E} {xs : List (T × Bool)} (h : Evs G C es (sR F D t mm i vs z7 l rg) xs (sR F D t mm i vs z7 l rg)) (hd : ∀ p ∈ xs, dv 20 5 p.1) (hl : xs.length ≤ 10) : El C (sR F D t mm i vs z7 l rg) (.tup ((.var 3) :: es)) := by
  refine ⟨_, _, Ev.tup (.cons (w3 hi) h) (by simp; omega), ?_⟩
  rw [List.map_cons]
  refine dv_cons (dv_wd hi) (fun y hy => ?_) (by simp; omega)
  obtain ⟨p, hp, rfl⟩ := List.mem_map.mp hy
  exact hd p hp
theorem el_two (hi : i < 18) {e : E} {x : T} {w : Bool} (h : Ev G C e (sR F D t mm i vs z7 l rg) x w (sR F D t mm i vs z7 l rg)) (hd : dv 20 5 x) : El C (sR F D t mm i vs z7 l rg) (.tup [(.var 3), e]) :=
  el_tup hi (.cons h .nil) (fun p hp => by rw [List.mem_singleton.mp hp]; exact hd) (by simp)
theorem nine (hi : i < 18) (hl : l.length = 5) : ∀ e ∈ ([(.tup [(.var 3)]), (.op2 .add (.tup [(.var 3)]) (.op2 .upto (.var 8) (.con (.int 1)))), (.op2 .add (.tup [(.var 3)]) (.op2 .upto (.var 8) (.con (.int 2)))), (.op2 .add (.tup [(.var 3)]) (.op2 .upto (.var 8) (.con (.int 3)))), (.op2 .add (.tup [(.var 3)]) (.op2 .upto (.var 8) (.con (.int 4)))), (.op2 .add (.tup [(.var 3)]) (.var 8)), (.tup [(.var 3), (.op2 .idx (.var 8) (.con (.int 0))), (.op2 .idx (.var 8) (.con (.int 0)))]), (.tup [(.var 3), (.con (.bl true))]), (.tup [(.var 3), (.con (.non))])] : List E), El C (sR F D t mm i vs z7 l rg) e := by
  intro e he
  obtain ⟨a, ha⟩ := ix_ok (C := C) (F := F) (D := D) (t := t) (mm := mm) (i := i) (vs := vs) (z7 := z7) (rg := rg) hl (k := 0) (by decide)
  have ha : Ev G C (.op2 .idx (.var 8) (.con (.int 0))) (sR F D t mm i vs z7 l rg) (.int a) true (sR F D t mm i vs z7 l rg) := ha
  simp only [List.mem_cons, List.not_mem_nil, or_false] at he
  rcases he with rfl | rfl | rfl | rfl | rfl | rfl | rfl | rfl | rfl
  · exact el_tup hi .nil (by simp) (by simp)
  · exact el_row hi hl 1
  · exact el_row hi hl 2
  · exact el_row hi hl 3
  · exact el_row hi hl 4
  · exact el_all hi hl
  · exact el_tup hi (.cons ha (.cons ha .nil)) (by intro p hp; simp at hp; rw [hp]; exact dv_int) (by simp)
  · exact el_two hi Ev.con dv_bl
  · exact el_two hi Ev.con dv_non
theorem six (hi : i < 18) (hl : l.length = 5) (hg : rg.length ≤ 6) : ∀ e ∈ ([(.tup [(.var 3), (.var 9)]), (.tup [(.var 3), (.tup [])]), (.tup [(.var 3), (.op2 .idx (.var 8) (.con (.int 0))), (.op2 .idx (.var 8) (.con (.int 1))), (.op2 .idx (.var 8) (.con (.int 1)))]), (.tup [(.var 3), (.op2 .idx (.var 8) (.con (.int 0))), (.op2 .idx (.var 8) (.con (.int 1))), (.op2 .idx (.var 8) (.con (.int 0)))]), (.tup [(.var 3), (.op2 .add (.var 9) (.op2 .upto (.var 9) (.con (.int 1))))]), (.tup [(.var 3), (.op2 .upto (.var 8) (.con (.int 2)))])] : List E), El C (sR F D t mm i vs z7 l rg) e := by
  intro e he
  obtain ⟨a, ha⟩ := ix_ok (C := C) (F := F) (D := D) (t := t) (mm := mm) (i := i) (vs := vs) (z7 := z7) (rg := rg) hl (k := 0) (by decide)
  have ha : Ev G C (.op2 .idx (.var 8) (.con (.int 0))) (sR F D t mm i vs z7 l rg) (.int a) true (sR F D t mm i vs z7 l rg) := ha
  obtain ⟨b, hb⟩ := ix_ok (C := C) (F := F) (D := D) (t := t) (mm := mm) (i := i) (vs := vs) (z7 := z7) (rg := rg) hl (k := 1) (by decide)
  have hb : Ev G C (.op2 .idx (.var 8) (.con (.int 1))) (sR F D t mm i vs z7 l rg) (.int b) true (sR F D t mm i vs z7 l rg) := hb
  simp only [List.mem_cons, List.not_mem_nil, or_false] at he
  rcases he with rfl | rfl | rfl | rfl | rfl | rfl
  · exact el_two hi (Ev.var rfl Lf.nums) (dv_nums (by omega))
  · exact el_two hi Ev.tup0 ⟨by simp, by simp⟩
  · exact el_tup hi (.cons ha (.cons hb (.cons hb .nil))) (by intro p hp; simp at hp; rcases hp with rfl | rfl <;> exact dv_int) (by simp)
  · exact el_tup hi (.cons ha (.cons hb (.cons ha .nil))) (by intro p hp; simp at hp; rcases hp with rfl | rfl | rfl <;> exact dv_int) (by simp)
  · exact el_two hi (Ev.two rfl rfl (Ev.var rfl Lf.nums) (Ev.two rfl rfl (Ev.var rfl Lf.nums) Ev.con upto1) (addNN (by omega) (by rw [List.length_take]; omega))) (dv_nums (by rw [List.length_append, List.length_take]; omega))
  · exact el_two hi (Ev.twoW rfl rfl (Ev.var rfl Lf.nums) Ev.con (uptoN (k := 2))) (dv_nums (by rw [List.length_take]; omega))
end
end

local macro_rules | `(tactic| walk_at "lfgo") => `(tactic| first | exact Lf.int | exact Lf.bl | exact Lf.nums | exact lfT | exact Lf.non | exact Lf.str | exact Lf.wd (by first | decide | assumption) | assumption)
local macro_rules | `(tactic| walk_at "trT") => `(tactic| first | exact Tr.blT | (apply Tr.of; decide) | (apply Tr.of; rfl) | (apply Tr.of; simp only [*]; done) | (apply Tr.of; simp only [*]; rfl) | fail)
local macro_rules | `(tactic| walk_at "trF") => `(tactic| first | exact Tr.blF | (apply Tr.of; decide) | (apply Tr.of; rfl) | (apply Tr.of; simp only [*]; done) | (apply Tr.of; simp only [*]; rfl) | fail)
local macro_rules | `(tactic| walk_at "vgo") => `(tactic| first | exact V2.eqN | exact V2.eqI | exact V2.neN | exact V2.eqB | exact V2.neB | exact idT (by assumption) | exact ix0 | exact ix1 | exact ix2 | exact ixL rfl | exact V1.neg1 | exact V2.lt | exact V2.le | exact V2.gt | exact V2.ge | exact V1.lenN | exact V1.lenNl | exact V1.isTup | exact V1.isInt | exact V1.isBoolI | exact V1.isBoolB | exact V1.isNn | exact V1.isNt | exact V1.notNn | exact V1.notNt | exact V1.isStr (by first | decide | assumption) | exact Mm.nm | exact Mm.nmt | exact q0 (by decide) | exact q1 (by decide) | exact q2 (by decide) | exact q3 (by decide) | exact q4 (by decide) | exact q5 (by decide) | exact q6 (by decide) | exact q7 (by decide) | exact q8 (by decide) | exact q9 (by decide) | exact q10 (by decide) | exact q11 (by decide) | exact q12 (by decide) | exact q13 (by decide) | exact q14 (by decide) | exact q15 (by decide) | exact q16 (by decide) | exact q17 (by decide) | exact r_tup_asym_anti (by decide) | exact r_tup_total_conn (by decide) | exact r_tup_refl_irr_serial_inv (by decide) | exact r_lst_refl_irr_serial_inv (by decide) | exact r_lst_trans_neg_eucl_func (by decide) | exact r_lst_refl_irr (by decide) | exact r_lst_sym_asym (by decide) | exact r_lst_anti_conn (by decide) | exact r_lst_total_full (by decide) | exact r_lst_ident_one (by decide) | apply V2.mem | apply V2.nmem | fail)
local macro_rules | `(tactic| walk_at "ev1") => `(tactic| first | exact Ev.con | assumption | exact Ev.var rfl (by walk_at "lfgo") | exact Ev.varL rfl | apply Ev.and | apply Ev.or | apply Ev.chain | apply Ev.not rfl | apply Ev.call1 rfl rfl rfl | apply Ev.call2 rfl rfl rfl rfl | apply Ev.call3 rfl rfl rfl rfl rfl | apply Ev.call4 rfl rfl rfl rfl rfl rfl | apply Ev.call5 rfl rfl rfl rfl rfl rfl rfl | apply Ev.call0 rfl rfl | walk_at "ite" | apply Ev.one rfl | apply Ev.two rfl rfl | exact Ev.tup0 | exact Ev.lst0 | apply Ev.tup1 | apply Ev.tup2 | apply Ev.tup4 | apply Ev.lst2 | apply Ev.lst3 | apply Ev.lst4 | walk_at "vgo" | apply_assumption | fail)
local macro_rules | `(tactic| walk_at "evgo") => `(tactic| repeat' (walk_at "ev1"))
local macro_rules | `(tactic| walk_at "ite") => `(tactic| first | (apply Ev.iteT; (· walk_at "evgo"); (· walk_at "trT")) | (apply Ev.iteF; (· walk_at "evgo"); (· walk_at "trF")) | fail)
local macro_rules | `(tactic| walk_at "st1") => `(tactic| first | exact Sts.nil | (apply Sts.rt; apply St.ret; walk_at "evgo") | (apply Sts.cons; (· (apply St.skip; (· walk_at "evgo"); (· walk_at "trF")))) | (apply Sts.rt; apply St.iffT; (· walk_at "evgo"); (· walk_at "trT")) | (apply Sts.cons; (· (apply St.set; (· walk_at "evgo")))) | (apply Sts.cons; (· (apply St.par2; (· walk_at "evgo"); (· walk_at "evgo"); (· rfl)))) | (apply Sts.cons; (· (apply St.unp; (· walk_at "evgo"); (· rfl)))) | fail)
local macro_rules | `(tactic| walk_at "stgo") => `(tactic| repeat' (walk_at "st1"))
section
variable {C : Nat → List T → CR} {cells : List Int} {t : List Nat}
structure ObjOk (C : Nat → List T → CR) (t : List Nat) (i : Nat) : Prop where
  ex : ∃ z, Cv C f_objection [tieT t, wd i] z true ∧ (z = .non ∨ ∃ xs, z = .tup xs ∧ dv 10 2 (.tup xs) ∧ sv 2 (.tup xs))
def wordB : List S := [.set 7 (.call f_objection [(.var 2), (.var 3)]),
      .iff (.op1 .notN (.var 7))
        [.set 6 (.op2 .add (.var 6) (.lst [(.var 7), (.call f_law_bent [(.brw 1), (.var 7)]), (.call f_law_bent [(.brw 1), (.var 7)]), (.op2 .upto (.var 7) (.op1 .neg (.con (.int 1)))), (.op2 .add (.var 7) (.tup [(.con (.int 0))])), (.op1 .list (.var 7))]))]
        [],
      .set 8 (.op1 .tuple (.lc (.nm 11) (.op1 .rng (.con (.int 5))) [] (.call f_law_take [(.brw 1), (.var 5)]) [11])),
      .set 9 (.op2 .upto (.op1 .tuple (.call f_law_order [(.brw 1), (.op1 .len (.var 2))])) (.op2 .add (.con (.int 1)) (.call f_law_take [(.brw 1), (.con (.int 4))]))),
      .set 6 (.op2 .add (.var 6) (.lst [(.tup [(.var 3)]), (.op2 .add (.tup [(.var 3)]) (.op2 .upto (.var 8) (.con (.int 1)))), (.op2 .add (.tup [(.var 3)]) (.op2 .upto (.var 8) (.con (.int 2)))), (.op2 .add (.tup [(.var 3)]) (.op2 .upto (.var 8) (.con (.int 3)))), (.op2 .add (.tup [(.var 3)]) (.op2 .upto (.var 8) (.con (.int 4)))), (.op2 .add (.tup [(.var 3)]) (.var 8)), (.tup [(.var 3), (.op2 .idx (.var 8) (.con (.int 0))), (.op2 .idx (.var 8) (.con (.int 0)))]), (.tup [(.var 3), (.con (.bl true))]), (.tup [(.var 3), (.con (.non))])])),
      .set 6 (.op2 .add (.var 6) (.lst [(.tup [(.var 3), (.var 9)]), (.tup [(.var 3), (.tup [])]), (.tup [(.var 3), (.op2 .idx (.var 8) (.con (.int 0))), (.op2 .idx (.var 8) (.con (.int 1))), (.op2 .idx (.var 8) (.con (.int 1)))]), (.tup [(.var 3), (.op2 .idx (.var 8) (.con (.int 0))), (.op2 .idx (.var 8) (.con (.int 1))), (.op2 .idx (.var 8) (.con (.int 0)))]), (.tup [(.var 3), (.op2 .add (.var 9) (.op2 .upto (.var 9) (.con (.int 1))))]), (.tup [(.var 3), (.op2 .upto (.var 8) (.con (.int 2)))])]))]
def Dvs (k : Nat) (vs : List T) : Prop := vs.length ≤ k ∧ ∀ x ∈ vs, dv 20 6 x
theorem Dvs.app {k j : Nat} {vs : List T} {xs : List (T × Bool)} (h : Dvs k vs) (hl : xs.length ≤ j) (hd : ∀ p ∈ xs, dv 20 6 p.1) : Dvs (k + j) (vs ++ xs.map (·.1)) := ⟨by
  rw [List.length_append, List.length_map]; have := h.1; omega, fun x hx => by
  rcases List.mem_append.mp hx with q | q
  · exact h.2 x q
  · obtain ⟨p, hp, rfl⟩ := List.mem_map.mp q
    exact hd p hp⟩
theorem word_turn (hC : TakeC C cells) (hO : OrderC C cells) (hB : BentC C cells) (hT : Tie t) {F D : T} {i k mm : Nat} (hi : i < 18) (hW : ObjOk C t i) {z7 z8 z9 : Option (T × Ow)} {vs : List T} (hD : Dr cells D) (h0 : 0 < mm) (h1 : mm ≤ 1000) (hv : Dvs k vs) (hk : k ≤ 500) :
    ∃ D' vs' z7' z8' z9', Dr cells D' ∧ Dvs (k + 21) vs' ∧ Sts G C wordB (sK F D t mm (some (wd i, .sh)) vs z7 z8 z9) (.nx (sK F D' t mm (some (wd i, .sh)) vs' z7' z8' z9')) := by
  obtain ⟨z, cz, hz⟩ := hW
  have lz : Lf z ∨ True := .inr trivial
  have a1 : St G C (.set 7 (.call f_objection [(.var 2), (.var 3)])) (sK F D t mm (some (wd i, .sh)) vs z7 z8 z9) (.nx (sK F D t mm (some (wd i, .sh)) vs (some (z, .sh)) z8 z9)) := St.set (Ev.call2 (F := B_objection) rfl rfl rfl rfl (Ev.var rfl lfT) (Ev.var rfl (Lf.wd hi)) cz)
  have a2 : ∃ D1 vs1, Dr cells D1 ∧ Dvs (k + 6) vs1 ∧ St G C (.iff (.op1 .notN (.var 7))
        [.set 6 (.op2 .add (.var 6) (.lst [(.var 7), (.call f_law_bent [(.brw 1), (.var 7)]), (.call f_law_bent [(.brw 1), (.var 7)]), (.op2 .upto (.var 7) (.op1 .neg (.con (.int 1)))), (.op2 .add (.var 7) (.tup [(.con (.int 0))])), (.op1 .list (.var 7))]))]
        []) (sK F D t mm (some (wd i, .sh)) vs (some (z, .sh)) z8 z9) (.nx (sK F D1 t mm (some (wd i, .sh)) vs1 (some (z, .sh)) z8 z9)) := by
    rcases hz with rfl | ⟨xs, rfl, d1, d2⟩
    · exact ⟨D, vs, hD, ⟨by have := hv.1; omega, hv.2⟩, St.skip (Ev.oneW rfl (Ev.varA rfl) rfl) Tr.blF⟩
    · obtain ⟨D1, ys, hD1, q1, q2, q3⟩ := told_ok (C := C) (t := t) (F := F) (mm := mm) (i := i) (z7 := none) (z8 := z8) (z9 := z9) (vs := vs) hB hD d1 d2
      refine ⟨D1, _, hD1, hv.app (Nat.le_of_eq q2) q3, St.iffT (Ev.oneW rfl (Ev.varA rfl) rfl) Tr.blT (Sts.cons (more rfl q1 (by have := hv.1; omega) (by omega)) Sts.nil)⟩
  obtain ⟨D1, vs1, hD1, hv1, a2⟩ := a2
  obtain ⟨D2, l, hD2, hl, e3⟩ := row_ok (C := C) (t := t) (F := F) (z3 := some (wd i, .sh)) (z7 := some (z, .sh)) (z8 := z8) (z9 := z9) (vs := vs1) hC hD1 h0 h1
  obtain ⟨D3, rg, hD3, hg, e4⟩ := ring_ok (C := C) (t := t) (F := F) (mm := mm) (z3 := some (wd i, .sh)) (z7 := some (z, .sh)) (z8 := some (.tup (nums l), .sh)) (z9 := z9) (vs := vs1) hC hO hT hD2
  obtain ⟨xs5, f1, f2, f3⟩ := els (nine (C := C) (F := F) (D := D3) (t := t) (mm := mm) (i := i) (z7 := some (z, .sh)) (vs := vs1) (l := l) (rg := rg) hi hl)
  have hv2 := hv1.app (j := 9) (Nat.le_of_eq f2) f3
  obtain ⟨xs6, g1, g2, g3⟩ := els (six (C := C) (F := F) (D := D3) (t := t) (mm := mm) (i := i) (z7 := some (z, .sh)) (vs := vs1 ++ xs5.map (·.1)) (l := l) (rg := rg) hi hl hg)
  have hv3 := hv2.app (j := 6) (Nat.le_of_eq g2) g3
  refine ⟨D3, _, some (z, .sh), some (.tup (nums l), .sh), some (.tup (nums rg), .sh), hD3, hv3, ?_⟩
  exact Sts.cons a1 (Sts.cons a2 (Sts.cons (St.set e3) (Sts.cons (St.set e4) (Sts.cons (more rfl f1 (by have := hv1.1; omega) (by rw [f2]; decide)) (Sts.cons (more rfl g1 (by have := hv2.1; omega) (by rw [g2]; decide)) Sts.nil)))))
/-! the last part -/
def lits : List T := [.non, .tup [], .str "refl", .lst [.str "refl", .int 0], .tup [.str "none", .int 0], .tup [.int 5, .int 0], .tup [.str "acyc", .lst [.int 0]], .tup [.str "ferr", .int 0, .int 0, .int 0, .str "0"]]
def litE : List E := [(.con (.non)), (.tup []), (.con (.str "refl")), (.lst [(.con (.str "refl")), (.con (.int 0))]), (.tup [(.con (.str "none")), (.con (.int 0))]), (.tup [(.con (.int 5)), (.con (.int 0))]), (.tup [(.con (.str "acyc")), (.lst [(.con (.int 0))])]), (.tup [(.con (.str "ferr")), (.con (.int 0)), (.con (.int 0)), (.con (.int 0)), (.con (.str "0"))])]
theorem lits_dv : ∀ x ∈ lits, dv 20 6 x := by
  have h : (lits.all fun x => dvB 20 6 x) = true := by decide +kernel
  exact fun x hx => dv_of (List.all_eq_true.mp h x hx)
theorem lit_ev {s : Sl} : Ev G C (.lst litE) s (.lst lits) true s := ⟨by kernel_rfl⟩
def bads : List T := [.non, .tup [], .tup [.int 2], .tup [.int (-1)], .lst [.int 1], .tup [.bl true], .tup [.int 0, .int 4], .tup [.str "0"], .tup [.int 0, .int 0, .int 0, .int 0, .int 0, .int 0, .int 0], .int 0]
def badE : E := .lst [(.con (.non)), (.tup []), (.tup [(.con (.int 2))]), (.tup [(.op1 .neg (.con (.int 1)))]), (.lst [(.con (.int 1))]), (.tup [(.con (.bl true))]), (.tup [(.con (.int 0)), (.con (.int 4))]), (.tup [(.con (.str "0"))]), (.op2 .mul (.tup [(.con (.int 0))]) (.con (.int 7))), (.con (.int 0))]
theorem bad_ev {s : Sl} : Ev G C badE s (.lst bads) true s := ⟨by kernel_rfl⟩
def BothC (C : Nat → List T → CR) (t : List Nat) : Prop := ∀ v, dv 20 6 v → ∃ b, Cv C f_takes_objection [tieT t, v] (.bl b) true ∧ Cv C f_law_right [tieT t, v] (.bl b) true
def valB : List S := [.iff (.op1 .notO (.call f_law_says [(.call f_takes_objection [(.var 2), (.var 4)]), (.call f_law_right [(.var 2), (.var 4)])]))
        [.ret (.con (.bl false))]
        []]
theorem law_run {ns : List Int} (hd : ∃ s, C f_law_draw [.frz (ns.map .int)] = .ok (DrT (ns.map absI) (-1) 0 s) true []) (hT : TieC C (ns.map absI)) (hC : TakeC C (ns.map absI)) (hO : OrderC C (ns.map absI)) (hB : BentC C (ns.map absI)) (hW : WordsC C) (hs : SaysC C) (hw : ∀ t i, Tie t → i < 18 → ObjOk C t i) (hb : ∀ t, Tie t → BothC C t)
    (hr : ∀ z ∈ bads, Cv C f_law_raises [z] (.bl true) true) : ∃ o, runFn G C B_law [.frz (ns.map .int)] = .ok (.bl true) o [] := by
  obtain ⟨sd, hd⟩ := hd
  let F : T := .frz (ns.map .int)
  have hF0 : G.fns[f_law_draw]? = some B_law_draw := rfl
  have s1 : St G C (.own 1 (.call f_law_draw [(.var 0)])) [some (F, .sh), none, none, none, none, none, none, none, none, none, none, none] (.nx [some (F, .sh), some (DrT (ns.map absI) (-1) 0 sd, .ow), none, none, none, none, none, none, none, none, none, none]) := ⟨by
    simp [exs, ex1, ev, evs, evas, ag, E.asBrw, rd, put, Rv.bind, Rv.fl, fin1, fin2, Ag.get, Ag.isB, fin, O1.rk, O2.rk, Rk.own, T.tr, F, T.lf, hF0, callR, bindA, B_law_draw, ioOf, roOf, apart, putIo, hd]⟩
  have hD0 : Dr (ns.map absI) (DrT (ns.map absI) (-1) 0 sd) := ⟨-1, 0, sd, by omega, rfl⟩
  obtain ⟨D, t, hD, tt, ct⟩ := hT _ 5 hD0 (by decide) (by decide)
  have s2 : St G C (.set 2 (.call f_law_tie [(.brw 1), (.con (.int 5))])) [some (F, .sh), some (DrT (ns.map absI) (-1) 0 sd, .ow), none, none, none, none, none, none, none, none, none, none] (.nx [some (F, .sh), some (D, .ow), some (tieT t, .sh), none, none, none, none, none, none, none, none, none]) := St.set (Ev.callIo (F := B_law_tie) rfl rfl rfl rfl Ev.con ct)
  have s3 : St G C (.par [(5, false), (6, false)] [(.op2 .add (.op1 .len (.var 2)) (.con (.int 1))), (.lst [])]) [some (F, .sh), some (D, .ow), some (tieT t, .sh), none, none, none, none, none, none, none, none, none] (.nx (sK F D t (t.length + 1) none [] none none none)) :=
    St.par2 (Ev.two rfl rfl (Ev.one rfl (Ev.var rfl lfT) V1.lenN) Ev.con (addN (b := 1))) Ev.lst0 rfl
  have h6 := tt.six
  obtain ⟨s', q1, D', vs, z3, z7, z8, z9, hD', hv, rfl⟩ := forGo_invN (tg := .nm 3) (body := fun s => exs G C wordB s) (enc (List.range 18)) (fun j s => ∃ D vs z3 z7 z8 z9, Dr (ns.map absI) D ∧ Dvs (21 * j) vs ∧ s = sK F D t (t.length + 1) z3 vs z7 z8 z9) 0 (sK F D t (t.length + 1) none [] none none none) (by decide) ⟨D, [], none, none, none, none, hD, ⟨by simp, by simp⟩, rfl⟩ (by
    intro j s x hs hx
    obtain ⟨D, vs, z3, z7, z8, z9, hD, hv, rfl⟩ := hs
    have hj : j < 18 := by
      rcases Nat.lt_or_ge j 18 with q | q
      · exact q
      · rw [List.getElem?_eq_none (by simp [enc]; omega)] at hx; cases hx
    have ex : x = wd j := by
      rw [enc, List.getElem?_map, List.getElem?_range hj] at hx
      simpa using hx.symm
    subst ex
    obtain ⟨D', vs', y7, y8, y9, e1, e2, e3⟩ := word_turn (F := F) (mm := t.length + 1) (k := 21 * j) (z7 := z7) (z8 := z8) (z9 := z9) hC hO hB tt hj (hw t j tt hj) hD (Nat.succ_pos _) (by omega) hv (by omega)
    exact ⟨sK F D t (t.length + 1) (some (wd j, .sh)) vs z7 z8 z9, _, rfl, e3.h, D', vs', _, y7, y8, y9, e1, by rw [Nat.mul_succ]; exact e2, rfl⟩)
  have s4 : St G C (.fr (.nm 3) (.call f_law_words []) wordB) (sK F D t (t.length + 1) none [] none none none) (.nx (sK F D' t (t.length + 1) z3 vs z7 z8 z9)) := St.fr rfl (Ev.call0 (F := B_law_words) rfl rfl hW) rfl q1
  have hvl : vs.length ≤ 378 := by have := hv.1; simp [enc] at this; omega
  have e5 : Ev G C (.op2 .add (.var 6) (.lst litE)) (sK F D' t (t.length + 1) z3 vs z7 z8 z9) (.lst (vs ++ lits)) _ (sK F D' t (t.length + 1) z3 vs z7 z8 z9) := Ev.twoW rfl rfl (Ev.varA rfl) lit_ev (addLst (by have : lits.length = 8 := rfl; omega))
  have hall : ∀ x ∈ vs ++ lits, dv 20 6 x := fun x hx => (List.mem_append.mp hx).elim (hv.2 x) (lits_dv x)
  obtain ⟨s'', p1, z4, rfl⟩ := forGo_inv (tg := .nm 4) (body := fun s => exs G C valB s) (fun s => ∃ z4, s = [some (F, .sh), some (D', .ow), some (tieT t, .sh), z3, z4, some (.int (t.length + 1 : Nat), .sh), some (.lst vs, .sh), z7, z8, z9, none, none]) (vs ++ lits) (sK F D' t (t.length + 1) z3 vs z7 z8 z9) ⟨none, rfl⟩ (by
    intro s x hs hx
    obtain ⟨z4, rfl⟩ := hs
    obtain ⟨b, c1, c2⟩ := hb t tt x (hall x hx)
    refine ⟨[some (F, .sh), some (D', .ow), some (tieT t, .sh), z3, some (x, .sh), some (.int (t.length + 1 : Nat), .sh), some (.lst vs, .sh), z7, z8, z9, none, none], _, rfl, (Sts.cons (St.skip (Ev.not (p := true) rfl (Ev.call2 (F := B_law_says) rfl rfl rfl rfl (Ev.call2 (F := B_takes_objection) rfl rfl rfl rfl (Ev.var rfl lfT) (Ev.varA rfl) c1) (Ev.call2 (F := B_law_right) rfl rfl rfl rfl (Ev.var rfl lfT) (Ev.varA rfl) c2) (hs b))) Tr.blF) Sts.nil).h, _, rfl⟩)
  have s5 : St G C (.fr (.nm 4) (.op2 .add (.var 6) (.lst litE)) valB) (sK F D' t (t.length + 1) z3 vs z7 z8 z9) _ := St.fr rfl e5 rfl p1
  have e6 := ev_all (G := G) (C := C) (t := .nm 10) (it := badE) (elt := .call f_law_raises [(.var 10)]) (own := [10]) (p := fun _ => true) (xs := bads) (s := [some (F, .sh), some (D', .ow), some (tieT t, .sh), z3, z4, some (.int (t.length + 1 : Nat), .sh), some (.lst vs, .sh), z7, z8, z9, none, none]) (ag_of rfl bad_ev.h) rfl rfl (fun z hz => by
    refine ⟨[some (F, .sh), some (D', .ow), some (tieT t, .sh), z3, z4, some (.int (t.length + 1 : Nat), .sh), some (.lst vs, .sh), z7, z8, z9, some (z, .sh), none], rfl, ?_, rfl⟩
    exact (Ev.call1 (G := G) (C := C) (F := B_law_raises) (s := [some (F, .sh), some (D', .ow), some (tieT t, .sh), z3, z4, some (.int (t.length + 1 : Nat), .sh), some (.lst vs, .sh), z7, z8, z9, some (z, .sh), none]) rfl rfl rfl (Ev.varA rfl) (hr z hz)).h) (by decide)
  have e6 : Ev G C (.op1 .all (.lc (.nm 10) badE [] (.call f_law_raises [(.var 10)]) [10])) [some (F, .sh), some (D', .ow), some (tieT t, .sh), z3, z4, some (.int (t.length + 1 : Nat), .sh), some (.lst vs, .sh), z7, z8, z9, none, none] (.bl true) true _ := ⟨e6⟩
  refine ⟨true, ?_⟩
  apply run_s (F := B_law) rfl (s0 := [some (F, .sh), none, none, none, none, none, none, none, none, none, none, none]) rfl
  · exact Sts.cons s1 (Sts.cons s2 (Sts.cons s3 (Sts.cons s4 (Sts.cons s5 (Sts.rt (St.ret e6))))))
  · rfl
end
theorem nums_inj : ∀ {a b : List Nat}, nums a = nums b → a = b
  | [], [], _ => rfl
  | [], _ :: _, h => by cases h
  | _ :: _, [], h => by cases h
  | x :: a, y :: b, h => by
    have h : T.int (x : Int) :: nums a = T.int (y : Int) :: nums b := h
    injection h with h1 h2
    injection h1 with h1
    rw [nums_inj h2, Int.ofNat.inj h1]
/-! ### all together -/
theorem c_whole_any (n : Nat) : WholeAny (CL (n + 1)) := fun m k v h => cv (F := B_is_whole) rfl (whole_any h)
section
variable {t : List Nat} (n : Nat)
theorem c_thing_any : ThingAny (CL (n + 2)) f_is_thing t := fun m k v h => cv (F := B_is_thing) rfl (thing_any (c_whole_any n) h)
theorem c_lthing_any : ThingAny (CL (n + 1)) f_law_thing t := fun m k v h => cv (F := B_law_thing) rfl (lthing_any h)
theorem both_all (hT : Tie t) : BothC (CL (n + 7)) t := fun v hv => by
  rcases head_any (C := CL (n + 6)) hv with ⟨i, x, r, hi, rfl⟩ | hbad
  · have hv' := hv
    obtain ⟨hl, hd⟩ := hv'
    have hl2 : (x :: r).length ≤ 1000 := by simp at hl ⊢; omega
    have hd2 : ∀ y ∈ x :: r, dv 20 5 y := fun y hy => hd y (List.mem_cons_of_mem _ hy)
    by_cases h13 : i = 13
    · subst h13
      have hx := hd2 x (by simp)
      have hlx : ∀ ys, x = .tup ys → ys.length ≤ 900 := fun ys e => by
        subst e
        have := hx.1
        omega
      have hJ : ∃ b, Cv (CL (n + 6)) f_judged_round [tieT t, x] (.bl b) true ∧ (∀ u : List Nat, x = .tup (nums u) → u ≠ [] → (∀ y ∈ u, y < t.length) → b = (dupB u && cyc t u)) ∧ ((x.isTup = false ∨ x = .tup [] ∨ ∃ ys, x = .tup ys ∧ ys ≠ [] ∧ ys.all (thT t) = false) → b = false) := by
        rcases ring_cases (t := t) x with h | h | h | ⟨u, h, h0, hu⟩
        · refine ⟨false, cv (F := B_judged_round) rfl (judged_not (c_thing_any (n + 3)) hx hlx (.inl h)), fun u e => ?_, fun _ => rfl⟩
          rw [e] at h; cases h
        · refine ⟨false, cv (F := B_judged_round) rfl (judged_not (c_thing_any (n + 3)) hx hlx (.inr (.inl h))), fun u e h0 _ => ?_, fun _ => rfl⟩
          rw [e] at h
          have : nums u = [] := by injection h
          cases u with
          | nil => exact absurd rfl h0
          | cons _ _ => cases this
        · refine ⟨false, cv (F := B_judged_round) rfl (judged_not (c_thing_any (n + 3)) hx hlx (.inr (.inr h))), fun u e h0 hu => ?_, fun _ => rfl⟩
          obtain ⟨ys, e2, _, ha⟩ := h
          rw [e] at e2
          have : nums u = ys := by injection e2
          rw [← this, nums_things hu] at ha
          cases ha
        · have hlu : u.length ≤ 900 := by have := hlx _ h; rw [nums_len] at this; exact this
          refine ⟨dupB u && cyc t u, by rw [h]; exact cv (F := B_judged_round) rfl (judged_row (c_has (n + 4)) (c_thing_any (n + 3)) h0 hu hlu), fun w e _ _ => ?_, fun q => ?_⟩
          · rw [h] at e
            have e2 : nums u = nums w := by injection e
            rw [nums_inj e2]
          · exfalso
            rcases q with q | q | ⟨ys, e, _, ha⟩
            · rw [h] at q; cases q
            · rw [h] at q
              have : nums u = [] := by injection q
              cases u with
              | nil => exact absurd rfl h0
              | cons _ _ => cases this
            · rw [h] at e
              have : nums u = ys := by injection e
              rw [← this, nums_things hu] at ha
              cases ha
      obtain ⟨b, q1, q2⟩ := both_13 (C := CL (n + 6)) (t := t) (r := r) hx (by decide) hlx (by simp at hl2; omega) (c_check_tie hT (n + 3)) hJ (c_lhas (n + 5)) (c_lthing_any (n + 5)) (c_words (n + 5))
      exact ⟨b, cv (F := B_takes_objection) rfl q1, cv (F := B_law_right) rfl q2⟩
    · obtain ⟨b, q1, q2⟩ := both_n (C := CL (n + 6)) (t := t) (xs := x :: r) hi h13 hd2 hl2 (by simp) (c_check_tie hT (n + 3)) (c_it hT (n + 1) hi h13) (c_thing_any (n + 4)) (c_bad hT (n + 3) hi h13) (c_lthing_any (n + 5)) (c_words (n + 5)) (c_count (n + 5) hi h13)
      exact ⟨b, cv (F := B_takes_objection) rfl q1, cv (F := B_law_right) rfl q2⟩
  · exact ⟨false, cv (F := B_takes_objection) rfl (takes_bad (c_check_tie hT (n + 3)) hbad), cv (F := B_law_right) rfl (right_bad (c_words (n + 5)) hbad)⟩
theorem obj_all (hT : Tie t) {i : Nat} (hi : i < 18) : ObjOk (CL (n + 8)) t i := by
  by_cases h13 : i = 13
  · subst h13
    rcases found_round_run hT (c_way hT (n + 2)) with ⟨f1, f2⟩ | ⟨x, u, f1, f2⟩
    · have fr : Cv (CL (n + 6)) f_found_round [tieT t] .non true := cv (F := B_found_round) rfl f1
      have fo := cv (n := n + 6) (F := B_found_objection) (f := f_found_objection) rfl (found13_run fr Lf.non V1.isNn)
      exact ⟨.non, cv (F := B_objection) rfl (objection_run (by decide) (c_check_tie hT (n + 4)) (c_check_word (n + 6) (by decide)) fo), .inl rfl⟩
    · have fr : Cv (CL (n + 6)) f_found_round [tieT t] (.tup (nums (x :: u))) true := cv (F := B_found_round) rfl f1
      have fo : Cv (CL (n + 7)) f_found_objection [tieT t, wd 13] (.tup [wd 13, .tup (nums (x :: u))]) true := cv (F := B_found_objection) rfl (found13_run fr Lf.nums V1.isNt)
      refine ⟨_, cv (F := B_objection) rfl (objection_run (by decide) (c_check_tie hT (n + 4)) (c_check_word (n + 6) (by decide)) fo), .inr ⟨_, rfl, ⟨by simp, ?_⟩, ?_⟩⟩
      · intro y hy
        simp only [List.mem_cons, List.not_mem_nil, or_false] at hy
        rcases hy with rfl | rfl
        · exact dv_wd (by decide)
        · exact dv_nums (by have := f2.six hT; omega)
      · intro y hy
        simp only [List.mem_cons, List.not_mem_nil, or_false] at hy
        rcases hy with rfl | rfl
        · exact sv_wd (by decide)
        · exact sv_nums
  · have fo7 := cv (n := n + 6) (F := B_found_objection) (f := f_found_objection) rfl (found_run hi h13 (c_it hT (n + 1) hi h13) (c_rows (n + 5) hT.six))
    have ob8 := cv (n := n + 7) (F := B_objection) (f := f_objection) rfl (objection_run hi (c_check_tie hT (n + 4)) (c_check_word (n + 6) hi) fo7)
    cases hf : (rowsN t.length (cntN i)).find? (badN t i) with
    | none =>
      rw [hf] at ob8
      exact ⟨.non, ob8, .inl rfl⟩
    | some r =>
      rw [hf] at ob8
      obtain ⟨hl, hr⟩ := rowsN_mem (List.mem_of_find?_eq_some hf)
      have := cnt_le i
      refine ⟨_, ob8, .inr ⟨_, rfl, ⟨by simp [nums_len]; omega, ?_⟩, ?_⟩⟩
      · intro y hy
        rcases List.mem_cons.mp hy with q | q
        · rw [q]; exact dv_wd hi
        · obtain ⟨k, _, rfl⟩ := List.mem_map.mp q
          exact dv_int
      · intro y hy
        rcases List.mem_cons.mp hy with q | q
        · rw [q]; exact sv_wd hi
        · obtain ⟨k, _, rfl⟩ := List.mem_map.mp q
          trivial
end
theorem bads_all : (bads.all fun z => match call G 19 f_law_raises [z] with | .ok (.bl true) true [] => true | _ => false) = true := by decide +kernel
theorem bads_ok : ∀ z ∈ bads, Cv (CL 19) f_law_raises [z] (.bl true) true := fun z hz => ⟨by
  have h := List.all_eq_true.mp bads_all z hz
  show call G 19 f_law_raises [z] = _
  revert h
  cases call G 19 f_law_raises [z] with
  | ok a o io =>
    intro h
    cases a with
    | bl b => cases b <;> cases o <;> cases io <;> simp at h ⊢
    | _ => simp at h
  | _ => intro h; simp at h⟩
theorem law_ok (ns : List Int) (h : ns.length ≤ 63) : ∃ o, call G 20 f_law [.frz (ns.map .int)] = .ok (.bl true) o [] := by
  obtain ⟨o, q⟩ := law_run (C := CL 19) (draw_ok (G := G) (f := f_law_draw) (n := 18) rfl ns h) (c_tie 15 (ns.map absI)) (c_take 18 (ns.map absI)) (c_order 17 (ns.map absI)) (fun v D hv hs hD => by
    obtain ⟨D', z, w, h1, h2, h3⟩ := c_bent (ns.map absI) 15 2 10 v D (by decide) hv hs hD
    exact ⟨D', z, w, h1, h2, h3⟩) (c_words 18) (c_says 18) (fun t i hT hi => obj_all 11 hT hi) (fun t hT => both_all 12 hT) bads_ok
  refine ⟨o, ?_⟩
  rw [callF (F := B_law) rfl]
  exact q
theorem b_is_whole : BindsF "is_whole" d_is_whole := fun _ _ _ _ _ _ us hl => match us, hl with | [_], _ => rfl
theorem b_has : BindsF "has" d_has := fun _ _ _ _ _ _ us hl => match us, hl with | [_, _], _ => rfl
theorem b_things_in : BindsF "things_in" d_things_in := fun _ _ _ _ _ _ us hl => match us, hl with | [_], _ => rfl
theorem b_is_tie : BindsF "is_tie" d_is_tie := fun _ _ _ _ _ _ us hl => match us, hl with | [_], _ => rfl
theorem b_check_tie : BindsF "check_tie" d_check_tie := fun _ _ _ _ _ _ us hl => match us, hl with | [_], _ => rfl
theorem b_is_thing : BindsF "is_thing" d_is_thing := fun _ _ _ _ _ _ us hl => match us, hl with | [_, _], _ => rfl
theorem b_led_to : BindsF "led_to" d_led_to := fun _ _ _ _ _ _ us hl => match us, hl with | [_, _], _ => rfl
theorem b_way_between : BindsF "way_between" d_way_between := fun _ _ _ _ _ _ us hl => match us, hl with | [_, _, _], _ => rfl
theorem b_check_word : BindsF "check_word" d_check_word := fun _ _ _ _ _ _ us hl => match us, hl with | [_], _ => rfl
theorem b_breaks_thing : BindsF "breaks_thing" d_breaks_thing := fun _ _ _ _ _ _ us hl => match us, hl with | [_, _, _], _ => rfl
theorem b_breaks_two : BindsF "breaks_two" d_breaks_two := fun _ _ _ _ _ _ us hl => match us, hl with | [_, _, _, _], _ => rfl
theorem b_breaks_three : BindsF "breaks_three" d_breaks_three := fun _ _ _ _ _ _ us hl => match us, hl with | [_, _, _, _, _], _ => rfl
theorem b_breaks_it : BindsF "breaks_it" d_breaks_it := fun _ _ _ _ _ _ us hl => match us, hl with | [_, _, _], _ => rfl
theorem b_rows_of : BindsF "rows_of" d_rows_of := fun _ _ _ _ _ _ us hl => match us, hl with | [_, _], _ => rfl
theorem b_found_round : BindsF "found_round" d_found_round := fun _ _ _ _ _ _ us hl => match us, hl with | [_], _ => rfl
theorem b_found_objection : BindsF "found_objection" d_found_objection := fun _ _ _ _ _ _ us hl => match us, hl with | [_, _], _ => rfl
theorem b_objection : BindsF "objection" d_objection := fun _ _ _ _ _ _ us hl => match us, hl with | [_, _], _ => rfl
theorem b_judged_round : BindsF "judged_round" d_judged_round := fun _ _ _ _ _ _ us hl => match us, hl with | [_, _], _ => rfl
theorem b_takes_objection : BindsF "takes_objection" d_takes_objection := fun _ _ _ _ _ _ us hl => match us, hl with | [_, _], _ => rfl
theorem b_law_draw : BindsF "_law_draw" d_law_draw := fun _ _ _ _ _ _ us hl => match us, hl with | [_], _ => rfl
theorem b_law_take : BindsF "_law_take" d_law_take := fun _ _ _ _ _ _ us hl => match us, hl with | [_, _], _ => rfl
theorem b_law_says : BindsF "_law_says" d_law_says := fun _ _ _ _ _ _ us hl => match us, hl with | [_, _], _ => rfl
theorem b_law_words : BindsF "_law_words" d_law_words := fun _ _ _ _ _ _ us hl => match us, hl with | [], _ => rfl
theorem b_law_order : BindsF "_law_order" d_law_order := fun _ _ _ _ _ _ us hl => match us, hl with | [_, _], _ => rfl
theorem b_law_styled : BindsF "_law_styled" d_law_styled := fun _ _ _ _ _ _ us hl => match us, hl with | [_, _, _], _ => rfl
theorem b_law_tie : BindsF "_law_tie" d_law_tie := fun _ _ _ _ _ _ us hl => match us, hl with | [_, _], _ => rfl
theorem b_law_has : BindsF "_law_has" d_law_has := fun _ _ _ _ _ _ us hl => match us, hl with | [_, _, _], _ => rfl
theorem b_law_ahead : BindsF "_law_ahead" d_law_ahead := fun _ _ _ _ _ _ us hl => match us, hl with | [_, _], _ => rfl
theorem b_law_count : BindsF "_law_count" d_law_count := fun _ _ _ _ _ _ us hl => match us, hl with | [_], _ => rfl
theorem b_law_bad : BindsF "_law_bad" d_law_bad := fun _ _ _ _ _ _ us hl => match us, hl with | [_, _, _], _ => rfl
theorem b_law_thing : BindsF "_law_thing" d_law_thing := fun _ _ _ _ _ _ us hl => match us, hl with | [_, _], _ => rfl
theorem b_law_right : BindsF "_law_right" d_law_right := fun _ _ _ _ _ _ us hl => match us, hl with | [_, _], _ => rfl
theorem b_law_bent : BindsF "_law_bent" d_law_bent := fun _ _ _ _ _ _ us hl => match us, hl with | [_, _], _ => rfl
theorem b_law_raises : BindsF "_law_raises" d_law_raises := fun _ _ _ _ _ _ us hl => match us, hl with | [_], _ => rfl
theorem b_law : BindsF "law" d_law := fun _ _ _ _ _ _ us hl => match us, hl with | [_], _ => rfl
theorem ok_all : (ds.all fun d => d.ok tx) = true := by decide +kernel
end K
open PySem PySem.W PyProof.Rows
set_option maxRecDepth 100000 in
set_option maxHeartbeats 0 in
theorem PySem.Challenge.cw_tiekinds_k03_whole_objections_judged_holds : PySem.Challenge.rw_tiekinds_k03_whole_objections_judged.Holds := by
  w_on; o_law; k_head; (case hw => w_witness2)
  k_fill
  refine M.walk_M (l := PySem.Challenge.rw_tiekinds_k03_whole_objections_judged) 20 rfl rfl ⟨rfl, by decide, by decide⟩ (fun w h Y => PySem.W.kIn_of Y) ?F
  case F =>
    intro w mg fa h KX G hmg
    refine' M.all_mk (Tt := K.tx) (G := K.G) (ds := K.ds) K.f_law KX G hmg (M.Fs.cons (M.fnf K.b_is_whole ?zg0 ?zl0 ?zc0 ?zk0) (M.Fs.cons (M.fnf K.b_has ?zg1 ?zl1 ?zc1 ?zk1) (M.Fs.cons (M.fnf K.b_things_in ?zg2 ?zl2 ?zc2 ?zk2) (M.Fs.cons (M.fnf K.b_is_tie ?zg3 ?zl3 ?zc3 ?zk3) (M.Fs.cons (M.fnf K.b_check_tie ?zg4 ?zl4 ?zc4 ?zk4) (M.Fs.cons (M.fnf K.b_is_thing ?zg5 ?zl5 ?zc5 ?zk5) (M.Fs.cons (M.fnf K.b_led_to ?zg6 ?zl6 ?zc6 ?zk6) (M.Fs.cons (M.fnf K.b_way_between ?zg7 ?zl7 ?zc7 ?zk7) (M.Fs.cons (M.fnf K.b_check_word ?zg8 ?zl8 ?zc8 ?zk8) (M.Fs.cons (M.fnf K.b_breaks_thing ?zg9 ?zl9 ?zc9 ?zk9) (M.Fs.cons (M.fnf K.b_breaks_two ?zg10 ?zl10 ?zc10 ?zk10) (M.Fs.cons (M.fnf K.b_breaks_three ?zg11 ?zl11 ?zc11 ?zk11) (M.Fs.cons (M.fnf K.b_breaks_it ?zg12 ?zl12 ?zc12 ?zk12) (M.Fs.cons (M.fnf K.b_rows_of ?zg13 ?zl13 ?zc13 ?zk13) (M.Fs.cons (M.fnf K.b_found_round ?zg14 ?zl14 ?zc14 ?zk14) (M.Fs.cons (M.fnf K.b_found_objection ?zg15 ?zl15 ?zc15 ?zk15) (M.Fs.cons (M.fnf K.b_objection ?zg16 ?zl16 ?zc16 ?zk16) (M.Fs.cons (M.fnf K.b_judged_round ?zg17 ?zl17 ?zc17 ?zk17) (M.Fs.cons (M.fnf K.b_takes_objection ?zg18 ?zl18 ?zc18 ?zk18) (M.Fs.cons (M.fnf K.b_law_draw ?zg19 ?zl19 ?zc19 ?zk19) (M.Fs.cons (M.fnf K.b_law_take ?zg20 ?zl20 ?zc20 ?zk20) (M.Fs.cons (M.fnf K.b_law_says ?zg21 ?zl21 ?zc21 ?zk21) (M.Fs.cons (M.fnf K.b_law_words ?zg22 ?zl22 ?zc22 ?zk22) (M.Fs.cons (M.fnf K.b_law_order ?zg23 ?zl23 ?zc23 ?zk23) (M.Fs.cons (M.fnf K.b_law_styled ?zg24 ?zl24 ?zc24 ?zk24) (M.Fs.cons (M.fnf K.b_law_tie ?zg25 ?zl25 ?zc25 ?zk25) (M.Fs.cons (M.fnf K.b_law_has ?zg26 ?zl26 ?zc26 ?zk26) (M.Fs.cons (M.fnf K.b_law_ahead ?zg27 ?zl27 ?zc27 ?zk27) (M.Fs.cons (M.fnf K.b_law_count ?zg28 ?zl28 ?zc28 ?zk28) (M.Fs.cons (M.fnf K.b_law_bad ?zg29 ?zl29 ?zc29 ?zk29) (M.Fs.cons (M.fnf K.b_law_thing ?zg30 ?zl30 ?zc30 ?zk30) (M.Fs.cons (M.fnf K.b_law_right ?zg31 ?zl31 ?zc31 ?zk31) (M.Fs.cons (M.fnf K.b_law_bent ?zg32 ?zl32 ?zc32 ?zk32) (M.Fs.cons (M.fnf K.b_law_raises ?zg33 ?zl33 ?zc33 ?zk33) (M.Fs.cons (M.fnf K.b_law ?zg34 ?zl34 ?zc34 ?zk34) M.Fs.nil))))))))))))))))))))))))))))))))))) (M.Ks.cons ?zkg0 ?zkh0 (M.Ks.cons ?zkg1 ?zkh1 M.Ks.nil)) (M.Cs.cons ⟨?zcg0, ?zce0, ?zck0, ?zcs0, ?zct0, ?zci0⟩ (M.Cs.cons ⟨?zcg1, ?zce1, ?zck1, ?zcs1, ?zct1, ?zci1⟩ M.Cs.nil)) (M.subF_2 ?zs_0_0 ?zs_0_1 ?zs_1_0 ?zs_1_1) (M.Bl.get (M.Bl.cons ?zb0 (M.Bl.cons ?zb1 (M.Bl.cons ?zb2 (M.Bl.cons ?zb3 (M.Bl.cons ?zb4 (M.Bl.cons ?zb5 (M.Bl.cons ?zb6 (M.Bl.cons ?zb7 (M.Bl.cons ?zb8 (M.Bl.cons ?zb9 (M.Bl.cons ?zb10 (M.Bl.cons ?zb11 (M.Bl.cons ?zb12 (M.Bl.cons ?zb13 (M.Bl.cons ?zb14 M.Bl.nil)))))))))))))))) (M.Dcs.cons ⟨?zdg0, ?zdw0, ?zdc0⟩ M.Dcs.nil) rfl (fun d hd => List.all_eq_true.mp K.ok_all d hd) rfl (d := K.d_law) rfl rfl rfl K.law_ok
    (case zg0 => k_is); (case zl0 => k_is); (case zc0 => k_is); (case zk0 => k_is)
    (case zg1 => k_is); (case zl1 => k_is); (case zc1 => k_is); (case zk1 => k_is)
    (case zg2 => k_is); (case zl2 => k_is); (case zc2 => k_is); (case zk2 => k_is)
    (case zg3 => k_is); (case zl3 => k_is); (case zc3 => k_is); (case zk3 => k_is)
    (case zg4 => k_is); (case zl4 => k_is); (case zc4 => k_is); (case zk4 => k_is)
    (case zg5 => k_is); (case zl5 => k_is); (case zc5 => k_is); (case zk5 => k_is)
    (case zg6 => k_is); (case zl6 => k_is); (case zc6 => k_is); (case zk6 => k_is)
    (case zg7 => k_is); (case zl7 => k_is); (case zc7 => k_is); (case zk7 => k_is)
    (case zg8 => k_is); (case zl8 => k_is); (case zc8 => k_is); (case zk8 => k_is)
    (case zg9 => k_is); (case zl9 => k_is); (case zc9 => k_is); (case zk9 => k_is)
    (case zg10 => k_is); (case zl10 => k_is); (case zc10 => k_is); (case zk10 => k_is)
    (case zg11 => k_is); (case zl11 => k_is); (case zc11 => k_is); (case zk11 => k_is)
    (case zg12 => k_is); (case zl12 => k_is); (case zc12 => k_is); (case zk12 => k_is)
    (case zg13 => k_is); (case zl13 => k_is); (case zc13 => k_is); (case zk13 => k_is)
    (case zg14 => k_is); (case zl14 => k_is); (case zc14 => k_is); (case zk14 => k_is)
    (case zg15 => k_is); (case zl15 => k_is); (case zc15 => k_is); (case zk15 => k_is)
    (case zg16 => k_is); (case zl16 => k_is); (case zc16 => k_is); (case zk16 => k_is)
    (case zg17 => k_is); (case zl17 => k_is); (case zc17 => k_is); (case zk17 => k_is)
    (case zg18 => k_is); (case zl18 => k_is); (case zc18 => k_is); (case zk18 => k_is)
    (case zg19 => k_is); (case zl19 => k_is); (case zc19 => k_is); (case zk19 => k_is)
    (case zg20 => k_is); (case zl20 => k_is); (case zc20 => k_is); (case zk20 => k_is)
    (case zg21 => k_is); (case zl21 => k_is); (case zc21 => k_is); (case zk21 => k_is)
    (case zg22 => k_is); (case zl22 => k_is); (case zc22 => k_is); (case zk22 => k_is)
    (case zg23 => k_is); (case zl23 => k_is); (case zc23 => k_is); (case zk23 => k_is)
    (case zg24 => k_is); (case zl24 => k_is); (case zc24 => k_is); (case zk24 => k_is)
    (case zg25 => k_is); (case zl25 => k_is); (case zc25 => k_is); (case zk25 => k_is)
    (case zg26 => k_is); (case zl26 => k_is); (case zc26 => k_is); (case zk26 => k_is)
    (case zg27 => k_is); (case zl27 => k_is); (case zc27 => k_is); (case zk27 => k_is)
    (case zg28 => k_is); (case zl28 => k_is); (case zc28 => k_is); (case zk28 => k_is)
    (case zg29 => k_is); (case zl29 => k_is); (case zc29 => k_is); (case zk29 => k_is)
    (case zg30 => k_is); (case zl30 => k_is); (case zc30 => k_is); (case zk30 => k_is)
    (case zg31 => k_is); (case zl31 => k_is); (case zc31 => k_is); (case zk31 => k_is)
    (case zg32 => k_is); (case zl32 => k_is); (case zc32 => k_is); (case zk32 => k_is)
    (case zg33 => k_is); (case zl33 => k_is); (case zc33 => k_is); (case zk33 => k_is)
    (case zg34 => k_is); (case zl34 => k_is); (case zc34 => k_is); (case zk34 => k_is)
    (case zkg0 => k_is); (case zkh0 => kernel_rfl)
    (case zkg1 => k_is); (case zkh1 => kernel_rfl)
    (case zdg0 => k_is); (case zdw0 => kernel_rfl); (case zdc0 => kernel_rfl)
    (case zcg0 => k_is); (case zce0 => kernel_rfl); (case zck0 => k_is); (case zcs0 => k_is); (case zct0 => k_is); (case zci0 => k_is)
    (case zcg1 => k_is); (case zce1 => kernel_rfl); (case zck1 => k_is); (case zcs1 => k_is); (case zct1 => k_is); (case zci1 => k_is)
    (case zs_0_0 => k_is); (case zs_0_1 => k_is); (case zs_1_0 => k_is); (case zs_1_1 => k_is)
    (case zb0 => k_is); (case zb1 => k_is); (case zb2 => k_is); (case zb3 => k_is); (case zb4 => k_is); (case zb5 => k_is); (case zb6 => k_is); (case zb7 => k_is); (case zb8 => k_is); (case zb9 => k_is); (case zb10 => k_is); (case zb11 => k_is); (case zb12 => k_is); (case zb13 => k_is); (case zb14 => k_is)
