import PyProof.Rows.All
import Wide.All
import OpenK.AllK
import Wide.FinOn
import HandS.ForMost
import PyProof.EqLayable
import PyProof.ReprReads
import HandS.Strs
import HandS.Deep
import HandS.SortInts
import HandS.IsInst
import HandS.Zip
import HandS.TupAny
import HandS.Style
import HandS.TupLen
import HandS.WordsDict
import KE.DataMinMax
import HandS.SetBool
import KE.GoesEnum
import HandS.Conv
import HandS.DictComp
import PySem.Challenge.RW_hookedcords_k97_whole_rings_of_halves
set_option Elab.async false
set_option linter.all false
/-! Z1: a small language, its values, its heap, its evaluation (plain Lean functions). -/
namespace Z
open PySem (Str)

/-- values; lv: a list that is read alone (the script; what `deep` tells); ctp: a tuple that the text's top has written -/
inductive Val where
  | non | bl (b : Bool) | int (i : Int) | str (s : Str) | tup (xs : List Val) | lv (xs : List Val) | ctp (xs : List Val) | ref (a : Nat)

mutual
def Val.dec : (a b : Val) → Decidable (a = b)
  | .non, .non => isTrue rfl
  | .bl a, .bl b => if h : a = b then isTrue (by rw [h]) else isFalse (fun e => h (Val.bl.inj e))
  | .int a, .int b => if h : a = b then isTrue (by rw [h]) else isFalse (fun e => h (Val.int.inj e))
  | .str a, .str b => if h : a = b then isTrue (by rw [h]) else isFalse (fun e => h (Val.str.inj e))
  | .ref a, .ref b => if h : a = b then isTrue (by rw [h]) else isFalse (fun e => h (Val.ref.inj e))
  | .tup a, .tup b => match Val.decs a b with
    | isTrue h => isTrue (by rw [h])
    | isFalse h => isFalse (fun e => h (Val.tup.inj e))
  | .lv a, .lv b => match Val.decs a b with
    | isTrue h => isTrue (by rw [h])
    | isFalse h => isFalse (fun e => h (Val.lv.inj e))
  | .ctp a, .ctp b => match Val.decs a b with
    | isTrue h => isTrue (by rw [h])
    | isFalse h => isFalse (fun e => h (Val.ctp.inj e))
  | .non, .bl _ | .non, .int _ | .non, .str _ | .non, .tup _ | .non, .lv _ | .non, .ctp _ | .non, .ref _ => isFalse (fun e => nomatch e)
  | .bl _, .non | .bl _, .int _ | .bl _, .str _ | .bl _, .tup _ | .bl _, .lv _ | .bl _, .ctp _ | .bl _, .ref _ => isFalse (fun e => nomatch e)
  | .int _, .non | .int _, .bl _ | .int _, .str _ | .int _, .tup _ | .int _, .lv _ | .int _, .ctp _ | .int _, .ref _ => isFalse (fun e => nomatch e)
  | .str _, .non | .str _, .bl _ | .str _, .int _ | .str _, .tup _ | .str _, .lv _ | .str _, .ctp _ | .str _, .ref _ => isFalse (fun e => nomatch e)
  | .tup _, .non | .tup _, .bl _ | .tup _, .int _ | .tup _, .str _ | .tup _, .lv _ | .tup _, .ctp _ | .tup _, .ref _ => isFalse (fun e => nomatch e)
  | .lv _, .non | .lv _, .bl _ | .lv _, .int _ | .lv _, .str _ | .lv _, .tup _ | .lv _, .ctp _ | .lv _, .ref _ => isFalse (fun e => nomatch e)
  | .ctp _, .non | .ctp _, .bl _ | .ctp _, .int _ | .ctp _, .str _ | .ctp _, .tup _ | .ctp _, .lv _ | .ctp _, .ref _ => isFalse (fun e => nomatch e)
  | .ref _, .non | .ref _, .bl _ | .ref _, .int _ | .ref _, .str _ | .ref _, .tup _ | .ref _, .lv _ | .ref _, .ctp _ => isFalse (fun e => nomatch e)
def Val.decs : (a b : List Val) → Decidable (a = b)
  | [], [] => isTrue rfl
  | [], _ :: _ => isFalse (fun e => nomatch e)
  | _ :: _, [] => isFalse (fun e => nomatch e)
  | a :: as, b :: bs => match Val.dec a b with
    | isFalse h => isFalse (fun e => h (List.cons.inj e).1)
    | isTrue h => match Val.decs as bs with
      | isTrue h2 => isTrue (by rw [h, h2])
      | isFalse h2 => isFalse (fun e => h2 (List.cons.inj e).2)
end
instance : DecidableEq Val := Val.dec

inductive Ob where
  | lst (xs : List Val)
  | dct (kvs : List (Val × Val))
  | set (xs : List Int)
  | ins (c : Nat) (fs : List (Nat × Val))
  deriving DecidableEq

abbrev Hip := List Ob
abbrev Env := List (Option Val)

inductive Res (α : Type) where
  | ok (a : α) (h : Hip)
  | bad

@[simp] def Res.bind {α β : Type} (r : Res α) (f : α → Hip → Res β) : Res β := match r with
  | .ok a h => f a h
  | .bad => .bad

/-- operators -/
inductive Op2 where
  | add | sub | mul | fdiv | mod | pow
  deriving DecidableEq
inductive Cop where
  | eq | ne | lt | le | gt | ge | isN | notN | isin | notin
  deriving DecidableEq
inductive Bi where
  | len | max2 | min2 | int1 | tupleOf | listOf | sorted | sum | isInt | isBool | isTuple | isStr | repr | all | any | abs | divmod | max1
  deriving DecidableEq
inductive Bm where
  | append | index
  deriving DecidableEq
/-- targets of names -/
inductive Tg where
  | nm (i : Nat)
  | tp (is : List Nat)

mutual
inductive IE where
  | var (i : Nat)
  | con (v : Val)
  | tup (es : IEs)
  | lst (es : IEs)
  | dct (ks : List Val) (es : IEs)
  | bin (o : Op2) (a b : IE)
  | neg (a : IE)
  | cmp (o : Cop) (a b : IE)
  | chain (o o' : Cop) (a b c : IE)
  | and2 (a b : IE)
  | or2 (a b : IE)
  | not1 (a : IE)
  | ite (c a b : IE)
  | ix (a b : IE)
  | sl (a : IE) (lo hi : IO)
  | rev (a : IE)
  | call (f : Nat) (es : IEs)
  | callK (f : Nat) (perm : List Nat) (es : IEs)
  | meth (o : IE) (m : Nat) (es : IEs)
  | make (c : Nat) (es : IEs)
  | bi (b : Bi) (es : IEs)
  | bm (b : Bm) (o : IE) (es : IEs)
  | fld (o : IE) (f : Nat)
  | lrange (es : IEs)
  | lenset (a : IE)
  | bad
  | dget3 (d k x : IE)
  | dc (own : List Nat) (t : Tg) (it : IIt) (c : IO) (ek e : IE)
  | lc (own : List Nat) (t : Tg) (it : IIt) (c : IO) (e : IE)
  | sc (own : List Nat) (t : Tg) (it : IIt) (c : IO) (e : IE)
inductive IEs where
  | nil
  | cons (e : IE) (es : IEs)
inductive IO where
  | no
  | so (e : IE)
inductive IIt where
  | seq (e : IE)
  | range (es : IEs)
  | enum (e : IE)
  | zip (a b : IE)
end

mutual
inductive IS where
  | asg (t : Tg) (e : IE)
  | setIx (o i e : IE)
  | setIx2 (a b o i p j : IE)
  | setFld (o : IE) (f : Nat) (e : IE)
  | aug (i : Nat) (o : Op2) (e : IE)
  | expr (e : IE)
  | ret (e : IE)
  | cond (c : IE) (a b : ISs)
  | loop (t : Tg) (it : IIt) (b : ISs)
  | whil (c : IE) (b : ISs)
  | pass | brk | cont | raise
inductive ISs where
  | nil
  | cons (s : IS) (ss : ISs)
end

structure FD where
  np : Nat
  ns : Nat
  body : ISs

/-- the program: functions by number, methods by class and name, __init__ by class; w: fuel of the whiles -/
structure Pg where
  fn : Nat → Option FD
  mt : Nat → Nat → Option Nat
  ini : Nat → Option Nat
  fo : Nat → Nat → Bool
  w : Nat

/-! ### values told wholly -/
mutual
def deepW (rec : Nat → Option Val) : Val → Option Val
  | .ref a => rec a
  | .tup xs => (deepWs rec xs).map .tup
  | .ctp xs => (deepWs rec xs).map .tup
  | .lv xs => (deepWs rec xs).map .lv
  | v => some v
def deepWs (rec : Nat → Option Val) : List Val → Option (List Val)
  | [] => some []
  | v :: vs => match deepW rec v with
    | some x => (deepWs rec vs).map (x :: ·)
    | none => none
end
def deepN (h : Hip) : Nat → Nat → Option Val
  | 0, _ => none
  | n + 1, a => match h[a]? with
    | some (.lst xs) => (deepWs (deepN h n) xs).map .lv
    | _ => none
def deep (h : Hip) (v : Val) : Option Val := deepW (deepN h 6) v

open PySem (PyData)
/- a value told wholly, as the library's data -/
mutual
def dat : Val → PyData
  | .non => .none
  | .bl b => .bool b
  | .int i => .int i
  | .str s => .str s
  | .tup xs | .ctp xs => .tuple (dats xs)
  | .lv xs => .list (dats xs)
  | .ref _ => .none
def dats : List Val → List PyData
  | [] => []
  | x :: xs => dat x :: dats xs
end
/-- Python's == of values told wholly -/
def peq (x y : Val) : Bool := PySem.PyData.eqv (dat x) (dat y)
/-- not too deep -/
def shallow (v : Val) : Bool := PySem.SeqAt.shaped (dat v)

def SZ : Nat := 16777216
def fits (n : Nat) : Bool := decide (n < SZ)

/-! ### operators on values -/
def isSc : Val → Bool
  | .non | .bl _ | .int _ | .str _ => true
  | _ => false
def eqOp (h : Hip) (x y : Val) : Option Bool := match deep h x, deep h y with
  | some a, some b => if shallow a && shallow b then some (peq a b) else none
  | _, _ => none
/-- the items of a list or tuple that is told wholly -/
def items? : Val → Option (List Val)
  | .tup xs | .lv xs => some xs
  | _ => none
/-- is x among the items of y -/
def amongOp (h : Hip) (x y : Val) : Option Bool := match deep h x, deep h y with
  | some d, some e => match items? e with
    | some ds => if shallow d && shallow e then some (ds.any fun z => peq z d) else none
    | none => none
  | _, _ => none
def idxOp (h : Hip) (x y : Val) : Option Nat := match deep h x, deep h y with
  | some d, some (.lv ds) => if shallow d && shallow (.lv ds) then ds.findIdx? (fun z => peq z d) else none
  | _, _ => none
def seqOf (h : Hip) : Val → Option (List Val)
  | .tup xs | .lv xs | .ctp xs => some xs
  | .ref a => match h[a]? with
    | some (.lst xs) => some xs
    | _ => none
  | _ => none
def mulOk (i j : Int) : Bool := decide (i.natAbs < 18446744073709551616) || decide (j.natAbs < 18446744073709551616)
def alloc (o : Ob) (h : Hip) : Res Val := .ok (.ref h.length) (h ++ [o])
def repl (xs : List Val) : Nat → List Val
  | 0 => []
  | n + 1 => xs ++ repl xs n
def binOp (o : Op2) (x y : Val) (h : Hip) : Res Val := match o, x, y with
  | .add, .int i, .int j => .ok (.int (i + j)) h
  | .sub, .int i, .int j => .ok (.int (i - j)) h
  | .mul, .int i, .int j => if mulOk i j then .ok (.int (i * j)) h else .bad
  | .fdiv, .int i, .int j => if decide (0 < j) && decide (j < 1073741824) then .ok (.int (i / j)) h else .bad
  | .mod, .int i, .int j => if decide (0 < j) then .ok (.int (i % j)) h else .bad
  | .pow, .int i, .int j => if decide (0 ≤ j) && decide (j ≤ 1000000) && decide (i.natAbs < 18446744073709551616) then .ok (.int (i ^ j.toNat)) h else .bad
  | .add, .tup xs, .tup ys => if fits (xs.length + ys.length) then .ok (.tup (xs ++ ys)) h else .bad
  | .add, .ref a, .ref b => match h[a]?, h[b]? with
    | some (.lst xs), some (.lst ys) => if fits (xs.length + ys.length) then alloc (.lst (xs ++ ys)) h else .bad
    | _, _ => .bad
  | .mul, .ref a, .int j => match h[a]? with
    | some (.lst xs) => if decide (0 ≤ j) && decide (j < 16777216) && fits (xs.length * j.toNat) then alloc (.lst (repl xs j.toNat)) h else .bad
    | _ => .bad
  | _, _, _ => .bad
def ok? {α β : Type} (o : Option α) (f : α → β) (h : Hip) : Res β := match o with
  | some a => .ok (f a) h
  | none => .bad
def dget (k : Val) : List (Val × Val) → Option Val
  | [] => none
  | (k', v) :: r => if k' = k then some v else dget k r
def dput (k v : Val) (kvs : List (Val × Val)) : List (Val × Val) :=
  if (kvs.any fun p => decide (p.1 = k)) = true then kvs.map (fun p => if p.1 = k then (p.1, v) else p) else kvs ++ [(k, v)]
/-- ints or texts; tuples of these -/
def isKey1 : Val → Bool
  | .int _ | .str _ => true
  | _ => false
def isKeyT : Val → Bool
  | .tup xs => xs.all isKey1
  | _ => false
def strLe : Str → Str → Bool := fun a b => decide (a.cps.toList ≤ b.cps.toList)
def intOp (o : Cop) (i j : Int) : Option Bool := match o with
  | .lt => some (decide (i < j))
  | .le => some (decide (i ≤ j))
  | .gt => some (decide (j < i))
  | .ge => some (decide (j ≤ i))
  | _ => none
def inOp (h : Hip) (x y : Val) : Option Bool := match y with
  | .ref a => match h[a]? with
    | some (.lst _) => amongOp h x y
    | some (.dct kvs) => if kvs.all (fun p => isKey1 p.1) && isKey1 x || kvs.all (fun p => isKeyT p.1) && isKeyT x then some ((dget x kvs).isSome) else none
    | some (.set xs) => match x with
      | .int i => some (decide (i ∈ xs))
      | _ => none
    | _ => none
  | _ => amongOp h x y
def cmpOp (o : Cop) (x y : Val) (h : Hip) : Option Bool := match o with
  | .eq => eqOp h x y
  | .ne => (eqOp h x y).map (!·)
  | .isN => if y = .non then some (decide (x = .non)) else none
  | .notN => if y = .non then some (!decide (x = .non)) else none
  | .isin => inOp h x y
  | .notin => (inOp h x y).map (!·)
  | o => match x, y with
    | .int i, .int j => intOp o i j
    | _, _ => none
def nIx (n : Nat) (i : Int) : Option Nat :=
  if 0 ≤ i then (if i < n then some i.toNat else none) else if -(n : Int) ≤ i then some (i + n).toNat else none
def ixOp (x i : Val) (h : Hip) : Option Val := match x, i with
  | .tup xs, .int k | .lv xs, .int k | .ctp xs, .int k => (nIx xs.length k).bind (xs[·]?)
  | .ref a, k => match h[a]?, k with
    | some (.lst xs), .int k => (nIx xs.length k).bind (xs[·]?)
    | some (.dct kvs), k => if kvs.all (fun p => isKey1 p.1) && isKey1 k || kvs.all (fun p => isKeyT p.1) && isKeyT k then dget k kvs else none
    | _, _ => none
  | _, _ => none
/-- a slice's bound -/
def clip (n : Nat) (i : Int) : Nat := if i < 0 then (max (i + (n : Int)) 0).toNat else min i.toNat n
def cutLo (n : Nat) : Option Int → Nat
  | none => 0
  | some i => clip n i
def cutHi (n : Nat) : Option Int → Nat
  | none => n
  | some i => clip n i
def cut (xs : List Val) (lo hi : Option Int) : List Val :=
  (xs.drop (cutLo xs.length lo)).take (cutHi xs.length hi - cutLo xs.length lo)
def partI : Option Val → Option (Option Int)
  | none => some none
  | some (.int i) => some (some i)
  | _ => none
def slOp (x : Val) (lo hi : Option Val) (h : Hip) : Res Val := match partI lo, partI hi with
  | some l, some u => match x with
    | .tup xs => .ok (.tup (cut xs l u)) h
    | .ref a => match h[a]? with
      | some (.lst xs) => alloc (.lst (cut xs l u)) h
      | _ => .bad
    | _ => .bad
  | _, _ => .bad
def revOp (x : Val) (h : Hip) : Res Val := match x with
  | .tup xs => .ok (.tup xs.reverse) h
  | .ref a => match h[a]? with
    | some (.lst xs) => alloc (.lst xs.reverse) h
    | _ => .bad
  | _ => .bad
def int? : Val → Option Int
  | .int i => some i
  | _ => none
def bl? : Val → Option Bool
  | .bl b => some b
  | _ => none
def ints? : List Val → Option (List Int)
  | [] => some []
  | .int i :: r => (ints? r).map (i :: ·)
  | _ => none
def bls? : List Val → Option (List Bool)
  | [] => some []
  | .bl i :: r => (bls? r).map (i :: ·)
  | _ => none
/-- sorting ints -/
def insI (x : Int) : List Int → List Int
  | [] => [x]
  | y :: r => if x ≤ y then x :: y :: r else y :: insI x r
def sortI : List Int → List Int
  | [] => []
  | x :: r => insI x (sortI r)
/-- the ints of a list, of a set of fewer than 64 -/
def intsIn (h : Hip) : Val → Option (List Int)
  | .lv xs => ints? xs
  | .tup xs => ints? xs
  | .ref a => match h[a]? with
    | some (.lst xs) => ints? xs
    | some (.set xs) => if xs.length < 64 then some xs else none
    | _ => none
  | _ => none
def lenOp (h : Hip) : Val → Option Nat
  | .tup xs | .lv xs | .ctp xs => some xs.length
  | .str s => if fits s.length then some s.length else none
  | .ref a => match h[a]? with
    | some (.lst xs) => some xs.length
    | some (.dct kvs) => some kvs.length
    | some (.set xs) => if xs.length < 4000 then some xs.length else none
    | _ => none
  | _ => none

/-! ### repr -/
def reprOp (h : Hip) (v : Val) : Option Str := match deep h v with
  | some d => if (dat d).showable && shallow d && fits ((dat d).shown.length) then some (dat d).shown else none
  | none => none

def fLen : List Val → Hip → Res Val
  | [x], h => ok? (lenOp h x) (fun n => .int (n : Int)) h
  | _, _ => .bad
def fMax2 : List Val → Hip → Res Val
  | [.int i, .int j], h => .ok (.int (if j > i then j else i)) h
  | _, _ => .bad
def fMin2 : List Val → Hip → Res Val
  | [.int i, .int j], h => .ok (.int (if j < i then j else i)) h
  | _, _ => .bad
def fAbs : List Val → Hip → Res Val
  | [.int i], h => .ok (.int (if i < 0 then -i else i)) h
  | _, _ => .bad
def fMax1 : List Val → Hip → Res Val
  | [x], h => match deep h x with
    | some d => match items? d with
      | some ds => match ints? ds with
        | some (n :: ns) => if ns.length < 1000000 then .ok (.int (ns.foldl max n)) h else .bad
        | _ => .bad
      | none => .bad
    | none => .bad
  | _, _ => .bad
def fDivmod : List Val → Hip → Res Val
  | [.int i, .int j], h => if decide (0 < j) && decide (j < 1073741824) then .ok (.tup [.int (i / j), .int (i % j)]) h else .bad
  | _, _ => .bad
def fInt1 : List Val → Hip → Res Val
  | [.int i], h => .ok (.int i) h
  | [.bl b], h => .ok (.int (if b then 1 else 0)) h
  | _, _ => .bad
def fTuple : List Val → Hip → Res Val
  | [.ctp xs], h => .ok (.ctp xs) h
  | [x], h => ok? (seqOf h x) .tup h
  | _, _ => .bad
def fList : List Val → Hip → Res Val
  | [x], h => match seqOf h x with
    | some xs => alloc (.lst xs) h
    | none => .bad
  | _, _ => .bad
def fSorted : List Val → Hip → Res Val
  | [x], h => match intsIn h x with
    | some is => alloc (.lst ((sortI is).map .int)) h
    | none => .bad
  | _, _ => .bad
def lstAt (h : Hip) : Val → Option (List Val)
  | .ref a => match h[a]? with
    | some (.lst xs) => some xs
    | _ => none
  | _ => none
def fSum : List Val → Hip → Res Val
  | [x], h => ok? ((lstAt h x).bind ints?) (fun is => .int is.sum) h
  | _, _ => .bad
def fAll : List Val → Hip → Res Val
  | [x], h => ok? ((lstAt h x).bind bls?) (fun bs => .bl (bs.all id)) h
  | _, _ => .bad
def fAny : List Val → Hip → Res Val
  | [x], h => ok? ((lstAt h x).bind bls?) (fun bs => .bl (bs.any id)) h
  | _, _ => .bad
/-- the built-in type of a value -/
def tyOf (h : Hip) : Val → Option String
  | .non => some "NoneType"
  | .bl _ => some "bool"
  | .int _ => some "int"
  | .str _ => some "str"
  | .tup _ | .ctp _ => some "tuple"
  | .ref a => match h[a]? with
    | some (.lst _) => some "list"
    | some (.dct _) => some "dict"
    | _ => none
  | _ => none
def fIs (t : String) : List Val → Hip → Res Val
  | [x], h => ok? (tyOf h x) (fun s => .bl (decide (s = t) || (decide (s = "bool") && decide (t = "int")))) h
  | _, _ => .bad
def fRepr : List Val → Hip → Res Val
  | [x], h => ok? (reprOp h x) .str h
  | _, _ => .bad
def biOp : Bi → List Val → Hip → Res Val
  | .len => fLen
  | .max2 => fMax2
  | .min2 => fMin2
  | .abs => fAbs
  | .divmod => fDivmod
  | .max1 => fMax1
  | .int1 => fInt1
  | .tupleOf => fTuple
  | .listOf => fList
  | .sorted => fSorted
  | .sum => fSum
  | .all => fAll
  | .any => fAny
  | .isInt => fIs "int"
  | .isBool => fIs "bool"
  | .isTuple => fIs "tuple"
  | .isStr => fIs "str"
  | .repr => fRepr
def mAppend (o : Val) : List Val → Hip → Res Val
  | [x], h => match o with
    | .ref a => match h[a]? with
      | some (.lst xs) => if fits xs.length then .ok .non (h.set a (.lst (xs ++ [x]))) else .bad
      | _ => .bad
    | _ => .bad
  | _, _ => .bad
def mIndex (o : Val) : List Val → Hip → Res Val
  | [x], h => match lstAt h o with
    | some _ => ok? (idxOp h x o) (fun n => .int (n : Int)) h
    | none => .bad
  | _, _ => .bad
def bmOp : Bm → Val → List Val → Hip → Res Val
  | .append => mAppend
  | .index => mIndex
def fget (f : Nat) : List (Nat × Val) → Option Val
  | [] => none
  | (g, v) :: r => if g = f then some v else fget f r
def fput (f : Nat) (v : Val) : List (Nat × Val) → List (Nat × Val)
  | [] => [(f, v)]
  | (g, u) :: r => if g = f then (g, v) :: r else (g, u) :: fput f v r

/-! ### walking -/
/-- what is walked: the items that come, and of a list where it stands (it is read again at each turn) -/
structure Wk where
  items : List Val
  src : Option Nat := none
def Wk.at (k : Wk) (i : Nat) (h : Hip) : Bool := match k.src with
  | none => true
  | some a => match h[a]? with
    | some (.lst ys) => decide (ys[i]? = k.items[i]?)
    | _ => false
def rng (lo : Int) : Nat → List Val
  | 0 => []
  | n + 1 => .int lo :: rng (lo + 1) n
def small (i : Int) : Bool := decide (-4611686018427387904 ≤ i) && decide (i < 4611686018427387904)
def rangeOf : List Val → Option (List Val)
  | [.int j] => if small j then some (rng 0 j.toNat) else none
  | [.int i, .int j] => if small i && small j then some (rng i (j - i).toNat) else none
  | _ => none
def pairs : List Val → List Val → List Val
  | x :: xs, y :: ys => .tup [x, y] :: pairs xs ys
  | _, _ => []
def walkOf (h : Hip) : Val → Option Wk
  | .tup xs | .lv xs | .ctp xs => some ⟨xs, none⟩
  | .ref a => match h[a]? with
    | some (.lst xs) => some ⟨xs, some a⟩
    | _ => none
  | _ => none
def setTs : List Nat → List Val → Env → Option Env
  | [], [], ρ => some ρ
  | i :: is, v :: vs, ρ => setTs is vs (ρ.set i (some v))
  | _, _, _ => none
def setT (t : Tg) (v : Val) (ρ : Env) : Option Env := match t, v with
  | .nm i, v => some (ρ.set i (some v))
  | .tp is, .tup vs => setTs is vs ρ
  | _, _ => none
def wipes : Env → List Nat → Env
  | ρ, [] => ρ
  | ρ, i :: is => (wipes ρ is).set i none

/-- a list of what comes of the items -/
def lcL (k : Wk) (f : Val → Hip → Res (Option Val)) : Nat → List Val → List Val → Hip → Res (List Val)
  | i, [], acc, h => if k.at i h then .ok acc h else .bad
  | i, x :: xs, acc, h => if k.at i h then (match f x h with
      | .ok (some y) h' => if fits acc.length then lcL k f (i + 1) xs (acc ++ [y]) h' else .bad
      | .ok none h' => lcL k f (i + 1) xs acc h'
      | .bad => .bad) else .bad
def addTo (y : Int) (acc : List Int) : List Int := if y ∈ acc then acc else acc ++ [y]
/-- how many unlike ints a list has -/
def lenSet (h : Hip) (x : Val) : Option Nat := match (lstAt h x).bind ints? with
  | some ns => if ns.length < 64 then some (ns.foldl (fun acc y => addTo y acc) []).length else none
  | none => none
def scL (k : Wk) (f : Val → Hip → Res (Option Val)) : Nat → List Val → List Int → Hip → Res (List Int)
  | i, [], acc, h => if k.at i h then .ok acc h else .bad
  | i, x :: xs, acc, h => if k.at i h then (match f x h with
      | .ok (some (.int y)) h' => if acc.length < 4000 then scL k f (i + 1) xs (addTo y acc) h' else .bad
      | .ok none h' => scL k f (i + 1) xs acc h'
      | _ => .bad) else .bad
/-- a dict of what comes of the items -/
def dcL (k : Wk) (f : Val → Hip → Res (Option (Val × Val))) : Nat → List Val → List (Val × Val) → Hip → Res (List (Val × Val))
  | i, [], acc, h => if k.at i h then .ok acc h else .bad
  | i, x :: xs, acc, h => if k.at i h then (match f x h with
      | .ok (some y) h' => if isKey1 y.1 && fits (acc.length + 1) then dcL k f (i + 1) xs (dput y.1 y.2 acc) h' else .bad
      | .ok none h' => dcL k f (i + 1) xs acc h'
      | .bad => .bad) else .bad

inductive Flow where
  | nx | brk | cont
  | ret (v : Val)
def forL (k : Wk) (f : Val → Env → Hip → Res (Flow × Env)) : Nat → List Val → Env → Hip → Res (Flow × Env)
  | i, [], ρ, h => if k.at i h then .ok (.nx, ρ) h else .bad
  | i, x :: xs, ρ, h => if k.at i h then (match f x ρ h with
      | .ok (.nx, ρ') h' => forL k f (i + 1) xs ρ' h'
      | .ok (.cont, ρ') h' => forL k f (i + 1) xs ρ' h'
      | .ok (.brk, ρ') h' => .ok (.nx, ρ') h'
      | .ok (.ret v, ρ') h' => .ok (.ret v, ρ') h'
      | .bad => .bad) else .bad
def whL (c : Env → Hip → Res Bool) (f : Env → Hip → Res (Flow × Env)) : Nat → Env → Hip → Res (Flow × Env)
  | 0, _, _ => .bad
  | n + 1, ρ, h => match c ρ h with
    | .ok true h' => (match f ρ h' with
      | .ok (.nx, ρ') h'' => whL c f n ρ' h''
      | .ok (.cont, ρ') h'' => whL c f n ρ' h''
      | .ok (.brk, ρ') h'' => .ok (.nx, ρ') h''
      | .ok (.ret v, ρ') h'' => .ok (.ret v, ρ') h''
      | .bad => .bad)
    | .ok false h' => .ok (.nx, ρ) h'
    | .bad => .bad

/-- o[i] = v -/
def putIx (x k v : Val) (h : Hip) : Res Unit := match x with
  | .ref a => match h[a]?, k with
    | some (.lst xs), .int k => match nIx xs.length k with
      | some j => .ok () (h.set a (.lst (xs.set j v)))
      | none => .bad
    | some (.dct kvs), k => if (kvs.all (fun p => isKey1 p.1) && isKey1 k || kvs.all (fun p => isKeyT p.1) && isKeyT k) && fits (kvs.length + 1) then .ok () (h.set a (.dct (dput k v kvs))) else .bad
    | _, _ => .bad
  | _ => .bad
def permute (perm : List Nat) (vs : List Val) : List Val := perm.filterMap (vs[·]?)
/-- a op= b -/
def augOp (o : Op2) (x y : Val) (h : Hip) : Res Val := match o, x, y with
  | .add, .ref a, .ref b => match h[a]?, h[b]? with
    | some (.lst xs), some (.lst ys) => if a ≠ b ∧ fits (xs.length + ys.length) then .ok (.ref a) (h.set a (.lst (xs ++ ys))) else .bad
    | _, _ => .bad
  | .add, .int i', .int j => .ok (.int (i' + j)) h
  | .sub, .int i', .int j => .ok (.int (i' - j)) h
  | .mul, .int i', .int j => if mulOk i' j then .ok (.int (i' * j)) h else .bad
  | _, _, _ => .bad
/-- a turn of a comprehension, of a loop; a test -/
def compStep (t : Tg) (ρ : Env) (fc : Env → Hip → Res Bool) (fe : Env → Hip → Res Val) (x : Val) (h : Hip) : Res (Option Val) := match setT t x ρ with
  | some ρ' => (fc ρ' h).bind fun b h => if b then (fe ρ' h).bind fun y h => .ok (some y) h else .ok none h
  | none => .bad
def compStep2 (t : Tg) (ρ : Env) (fc : Env → Hip → Res Bool) (fk fe : Env → Hip → Res Val) (x : Val) (h : Hip) : Res (Option (Val × Val)) := match setT t x ρ with
  | some ρ' => (fc ρ' h).bind fun b h => if b then (fk ρ' h).bind fun y h => (fe ρ' h).bind fun z h => .ok (some (y, z)) h else .ok none h
  | none => .bad
/-- d.get(k, x) -/
def getOr (x y z : Val) (h : Hip) : Option Val := match x with
  | .ref a => match h[a]? with
    | some (.dct kvs) => if (kvs.all (fun p => isKey1 p.1) && isKey1 y || kvs.all (fun p => isKeyT p.1) && isKeyT y) = true then some ((dget y kvs).getD z) else none
    | _ => none
  | _ => none
def isDct (x : Val) (h : Hip) : Bool := match x with
  | .ref a => match h[a]? with
    | some (.dct _) => true
    | _ => false
  | _ => false
def loopStep (t : Tg) (fb : Env → Hip → Res (Flow × Env)) (x : Val) (ρ : Env) (h : Hip) : Res (Flow × Env) := match setT t x ρ with
  | some ρ' => fb ρ' h
  | none => .bad
def testB (f : Env → Hip → Res Val) (ρ : Env) (h : Hip) : Res Bool := (f ρ h).bind fun x h => match x with
  | .bl b => .ok b h
  | _ => .bad
/-! ### evaluation; cf: the calls -/
abbrev CF := Nat → List Val → Hip → Res Val
def asBool (r : Res Val) : Res Bool := r.bind fun v h => match v with
  | .bl b => .ok b h
  | _ => .bad

mutual
def evE (P : Pg) (cf : CF) : IE → Env → Hip → Res Val
  | .var i, ρ, h => match ρ[i]? with
    | some (some v) => .ok v h
    | _ => .bad
  | .con v, _, h => .ok v h
  | .tup es, ρ, h => (evEs P cf es ρ h).bind fun vs h => if fits vs.length then .ok (.tup vs) h else .bad
  | .lst es, ρ, h => (evEs P cf es ρ h).bind fun vs h => if fits vs.length then alloc (.lst vs) h else .bad
  | .dct ks es, ρ, h => (evEs P cf es ρ h).bind fun vs h => if ks.all isKey1 && decide ks.Nodup && decide (ks.length = vs.length) then alloc (.dct (ks.zip vs)) h else .bad
  | .bin o a b, ρ, h => (evE P cf a ρ h).bind fun x h => (evE P cf b ρ h).bind fun y h => binOp o x y h
  | .neg a, ρ, h => (evE P cf a ρ h).bind fun x h => match x with
    | .int i => .ok (.int (-i)) h
    | _ => .bad
  | .cmp o a b, ρ, h => (evE P cf a ρ h).bind fun x h => (evE P cf b ρ h).bind fun y h => ok? (cmpOp o x y h) .bl h
  | .chain o o' a b c, ρ, h => (evE P cf a ρ h).bind fun x h => (evE P cf b ρ h).bind fun y h => match cmpOp o x y h with
    | some true => (evE P cf c ρ h).bind fun z h => ok? (cmpOp o' y z h) .bl h
    | some false => .ok (.bl false) h
    | none => .bad
  | .and2 a b, ρ, h => (evE P cf a ρ h).bind fun x h => match x with
    | .bl true => evE P cf b ρ h
    | .bl false => .ok (.bl false) h
    | _ => .bad
  | .or2 a b, ρ, h => (evE P cf a ρ h).bind fun x h => match x with
    | .bl false => evE P cf b ρ h
    | .bl true => .ok (.bl true) h
    | _ => .bad
  | .not1 a, ρ, h => (evE P cf a ρ h).bind fun x h => match x with
    | .bl b => .ok (.bl (!b)) h
    | _ => .bad
  | .ite c a b, ρ, h => (evE P cf c ρ h).bind fun x h => match x with
    | .bl true => evE P cf a ρ h
    | .bl false => evE P cf b ρ h
    | _ => .bad
  | .ix a b, ρ, h => (evE P cf a ρ h).bind fun x h => (evE P cf b ρ h).bind fun y h => ok? (ixOp x y h) id h
  | .sl a lo hi, ρ, h => (evE P cf a ρ h).bind fun x h => (evO P cf lo ρ h).bind fun l h => (evO P cf hi ρ h).bind fun u h => slOp x l u h
  | .rev a, ρ, h => (evE P cf a ρ h).bind fun x h => revOp x h
  | .call f es, ρ, h => (evEs P cf es ρ h).bind fun vs h => cf f vs h
  | .callK f perm es, ρ, h => (evEs P cf es ρ h).bind fun vs h => cf f (permute perm vs) h
  | .meth o m es, ρ, h => (evE P cf o ρ h).bind fun x h => match x with
    | .ref a => match h[a]? with
      | some (.ins c fs) => match P.mt c m, fget m fs with
        | some f, none => (evEs P cf es ρ h).bind fun vs h => cf f (.ref a :: vs) h
        | _, _ => .bad
      | _ => .bad
    | _ => .bad
  | .make c es, ρ, h => match P.ini c with
    | some f => (evEs P cf es ρ h).bind fun vs h => match cf f (.ref h.length :: vs) (h ++ [.ins c []]) with
      | .ok .non h' => .ok (.ref h.length) h'
      | _ => .bad
    | none => .bad
  | .bi b es, ρ, h => (evEs P cf es ρ h).bind fun vs h => biOp b vs h
  | .bm b o es, ρ, h => (evE P cf o ρ h).bind fun x h => match x with
    | .ref a => match h[a]? with
      | some (.lst _) => (evEs P cf es ρ h).bind fun vs h => bmOp b x vs h
      | _ => .bad
    | _ => .bad
  | .fld o f, ρ, h => (evE P cf o ρ h).bind fun x h => match x with
    | .ref a => match h[a]? with
      | some (.ins c fs) => if P.fo c f then ok? (fget f fs) id h else .bad
      | _ => .bad
    | _ => .bad
  | .lrange es, ρ, h => (evEs P cf es ρ h).bind fun vs h => match rangeOf vs with
    | some xs => if fits xs.length then alloc (.lst xs) h else .bad
    | none => .bad
  | .lenset a, ρ, h => (evE P cf a ρ h).bind fun x h => ok? (lenSet h x) (fun n => .int (n : Int)) h
  | .bad, _, _ => .bad
  | .dget3 d k x, ρ, h => (evE P cf d ρ h).bind fun v h => if isDct v h then (evE P cf k ρ h).bind fun y h => (evE P cf x ρ h).bind fun z h => ok? (getOr v y z h) id h else .bad
  | .dc own t it c ek e, ρ, h => (evI P cf it ρ h).bind fun k h => (dcL k (compStep2 t (wipes ρ own) (evC P cf c) (evE P cf ek) (evE P cf e)) 0 k.items [] h).bind fun acc h => alloc (.dct acc) h
  | .lc own t it c e, ρ, h => (evI P cf it ρ h).bind fun k h => (lcL k (compStep t (wipes ρ own) (evC P cf c) (evE P cf e)) 0 k.items [] h).bind fun acc h => alloc (.lst acc) h
  | .sc own t it c e, ρ, h => (evI P cf it ρ h).bind fun k h => (scL k (compStep t (wipes ρ own) (evC P cf c) (evE P cf e)) 0 k.items [] h).bind fun acc h => alloc (.set acc) h
def evEs (P : Pg) (cf : CF) : IEs → Env → Hip → Res (List Val)
  | .nil, _, h => .ok [] h
  | .cons e es, ρ, h => (evE P cf e ρ h).bind fun v h => (evEs P cf es ρ h).bind fun vs h => .ok (v :: vs) h
def evO (P : Pg) (cf : CF) : IO → Env → Hip → Res (Option Val)
  | .no, _, h => .ok none h
  | .so e, ρ, h => (evE P cf e ρ h).bind fun v h => .ok (some v) h
/-- a comprehension's test -/
def evC (P : Pg) (cf : CF) : IO → Env → Hip → Res Bool
  | .no, _, h => .ok true h
  | .so e, ρ, h => (evE P cf e ρ h).bind fun v h => match v with
    | .bl b => .ok b h
    | _ => .bad
def evI (P : Pg) (cf : CF) : IIt → Env → Hip → Res Wk
  | .seq e, ρ, h => (evE P cf e ρ h).bind fun v h => ok? (walkOf h v) id h
  | .range es, ρ, h => (evEs P cf es ρ h).bind fun vs h => ok? (rangeOf vs) (fun xs => ⟨xs, none⟩) h
  | .enum e, ρ, h => (evE P cf e ρ h).bind fun v h => match v with
    | .tup xs | .lv xs | .ctp xs => .ok ⟨pairs (rng 0 xs.length) xs, none⟩ h
    | _ => .bad
  | .zip a b, ρ, h => (evE P cf a ρ h).bind fun x h => (evE P cf b ρ h).bind fun y h => match x, y with
    | .tup xs, .tup ys => .ok ⟨pairs xs ys, none⟩ h
    | _, _ => .bad
end

mutual
def exS (P : Pg) (cf : CF) : IS → Env → Hip → Res (Flow × Env)
  | .asg t e, ρ, h => (evE P cf e ρ h).bind fun v h => ok? (setT t v ρ) (fun ρ => (.nx, ρ)) h
  | .setIx o i e, ρ, h => (evE P cf e ρ h).bind fun v h => (evE P cf o ρ h).bind fun x h => (evE P cf i ρ h).bind fun k h => (putIx x k v h).bind fun _ h => .ok (.nx, ρ) h
  | .setIx2 a b o i p j, ρ, h => (evE P cf a ρ h).bind fun v h => (evE P cf b ρ h).bind fun u h =>
    (evE P cf o ρ h).bind fun x h => (evE P cf i ρ h).bind fun k h => (putIx x k v h).bind fun _ h =>
    (evE P cf p ρ h).bind fun y h => (evE P cf j ρ h).bind fun l h => (putIx y l u h).bind fun _ h => .ok (.nx, ρ) h
  | .setFld o f e, ρ, h => (evE P cf e ρ h).bind fun v h => (evE P cf o ρ h).bind fun x h => match x with
    | .ref a => match h[a]? with
      | some (.ins c fs) => if P.fo c f && decide (fs.length < 900) then .ok (.nx, ρ) (h.set a (.ins c (fput f v fs))) else .bad
      | _ => .bad
    | _ => .bad
  | .aug i o e, ρ, h => match ρ[i]? with
    | some (some x) => (evE P cf e ρ h).bind fun y h => (augOp o x y h).bind fun z h => .ok (.nx, ρ.set i (some z)) h
    | _ => .bad
  | .expr e, ρ, h => (evE P cf e ρ h).bind fun _ h => .ok (.nx, ρ) h
  | .ret e, ρ, h => (evE P cf e ρ h).bind fun v h => .ok (.ret v, ρ) h
  | .cond c a b, ρ, h => (evE P cf c ρ h).bind fun x h => match x with
    | .bl true => exSs P cf a ρ h
    | .bl false => exSs P cf b ρ h
    | _ => .bad
  | .loop t it b, ρ, h => (evI P cf it ρ h).bind fun k h => forL k (loopStep t (exSs P cf b)) 0 k.items ρ h
  | .whil c b, ρ, h => whL (testB (evE P cf c)) (exSs P cf b) P.w ρ h
  | .pass, ρ, h => .ok (.nx, ρ) h
  | .brk, ρ, h => .ok (.brk, ρ) h
  | .cont, ρ, h => .ok (.cont, ρ) h
  | .raise, _, _ => .bad
def exSs (P : Pg) (cf : CF) : ISs → Env → Hip → Res (Flow × Env)
  | .nil, ρ, h => .ok (.nx, ρ) h
  | .cons s ss, ρ, h => (exS P cf s ρ h).bind fun fr h => match fr with
    | (.nx, ρ) => exSs P cf ss ρ h
    | fr => .ok fr h
end

/-! ### calls: the callee sees what its arguments reach, numbered anew -/
mutual
def refsV : Val → List Nat
  | .ref a => [a]
  | .tup xs | .lv xs | .ctp xs => refsVs xs
  | _ => []
def refsVs : List Val → List Nat
  | [] => []
  | v :: vs => refsV v ++ refsVs vs
end
def refsO : Ob → List Nat
  | .lst xs => refsVs xs
  | .set _ => []
  | .dct kvs => refsVs (kvs.map (·.1)) ++ refsVs (kvs.map (·.2))
  | .ins _ fs => refsVs (fs.map (·.2))
def reach (h : Hip) : Nat → List Nat → List Nat → List Nat
  | 0, _, acc => acc
  | _ + 1, [], acc => acc
  | n + 1, a :: q, acc => if acc.contains a then reach h n q acc else match h[a]? with
    | some o => reach h n (q ++ refsO o) (acc ++ [a])
    | none => acc
mutual
def mapV (f : Nat → Option Nat) : Val → Option Val
  | .ref a => (f a).map .ref
  | .tup xs => (mapVs f xs).map .tup
  | .lv xs => (mapVs f xs).map .lv
  | .ctp xs => (mapVs f xs).map .ctp
  | v => some v
def mapVs (f : Nat → Option Nat) : List Val → Option (List Val)
  | [] => some []
  | v :: vs => match mapV f v, mapVs f vs with
    | some x, some xs => some (x :: xs)
    | _, _ => none
end
def mapO (f : Nat → Option Nat) : Ob → Option Ob
  | .lst xs => (mapVs f xs).map .lst
  | .set xs => some (.set xs)
  | .dct kvs => match mapVs f (kvs.map (·.1)), mapVs f (kvs.map (·.2)) with
    | some ks, some vs => some (.dct (ks.zip vs))
    | _, _ => none
  | .ins c fs => (mapVs f (fs.map (·.2))).map fun vs => .ins c ((fs.map (·.1)).zip vs)
/-- the objects at some places, by a map of the places -/
def takeO (h : Hip) (f : Nat → Option Nat) : List Nat → Option Hip
  | [] => some []
  | a :: r => match (h[a]?).bind (mapO f), takeO h f r with
    | some o, some os => some (o :: os)
    | _, _ => none
def putO : Hip → List Nat → Hip → Hip
  | h, a :: r, o :: os => putO (h.set a o) r os
  | h, _, _ => h
def RF : Nat := 100000
def refsAll : Hip → List Nat
  | [] => []
  | o :: r => refsO o ++ refsAll r
def place (L : List Nat) (a : Nat) : Option Nat := L.idxOf? a
def backTo (L New : List Nat) (n : Nat) (i : Nat) : Option Nat := match L[i]? with
  | some a => some a
  | none => (New.idxOf? i).map (n + ·)
def runF (P : Pg) (cf : CF) (d : FD) (vs : List Val) (h : Hip) : Res Val :=
  match exSs P cf d.body (vs.map some ++ List.replicate (d.ns - d.np) none) h with
  | .ok (.ret v, _) h' => .ok v h'
  | .ok (.nx, _) h' => .ok .non h'
  | _ => .bad
def enterC (vs : List Val) (h : Hip) : Option (List Nat × List Val × Hip) :=
  let L := reach h RF (refsVs vs) []
  match mapVs (place L) vs, takeO h (place L) L with
  | some us, some g => some (L, us, g)
  | _, _ => none
def leaveC (L : List Nat) (v : Val) (g : Hip) (h : Hip) : Res Val :=
  let n := L.length
  let New := (reach g RF (refsV v ++ refsAll (g.take n)) []).filter (fun i => decide (n ≤ i))
  let f := backTo L New h.length
  match mapV f v, takeO g f (List.range n), takeO g f New with
  | some u, some os, some ns => .ok u (putO h L os ++ ns)
  | _, _, _ => .bad
def callF (P : Pg) : Nat → CF
  | 0, _, _, _ => .bad
  | d + 1, f, vs, h => match P.fn f with
    | none => .bad
    | some fd => if vs.length = fd.np then (match enterC vs h with
      | none => .bad
      | some (L, us, g) => match runF P (callF P d) fd us g with
        | .ok v g' => leaveC L v g' h
        | .bad => .bad) else .bad
end Z

/-! Z2: how the small language's values and heap lie in the layer's abstract heap. -/
namespace Z
open PySem (Str Value Addr Obj)
open L2 (V HO Hp upd upd_same upd_ne upd_upd SqL SqT Rd Mut)

/-- what a law's text has written: the written part, classes and names by number -/
structure Tb where
  w : PySem.World
  K : PySem.W.Frag
  cl : Nat → Option Addr
  nm : Nat → Str
  inj : ∀ i j, nm i = nm j → i = j

/-- a list that nobody writes -/
def SqF (K : PySem.W.Frag) (H : Hp) (a : Addr) (xs : List V) : Prop :=
  (∃ o, H a = some (.frz o (.lst xs))) ∨ (∀ H', SqL K H' a xs)
theorem SqF.sq {K : PySem.W.Frag} {H : Hp} {a : Addr} {xs : List V} (h : SqF K H a xs) : SqL K H a xs := by
  rcases h with ⟨o, h⟩ | h
  · exact .inl (.inr ⟨o, h⟩)
  · exact h H

mutual
inductive Rep (T : Tb) (ι : List Addr) (H : Hp) : Val → V → Prop
  | non : Rep T ι H .non .non
  | bl (b : Bool) : Rep T ι H (.bl b) (.bl b)
  | int (i : Int) : Rep T ι H (.int i) (.int i)
  | str (x : Str) : Rep T ι H (.str x) (.str x)
  | tup {xs : List Val} {a : Addr} {vs : List V} : H a = some (.tup vs) → Reps T ι H xs vs → Rep T ι H (.tup xs) (.ref a)
  | ctp {xs : List Val} {a : Addr} {vs : List V} : (∀ H', SqT T.K H' a vs) → Reps T ι H xs vs → Rep T ι H (.ctp xs) (.ref a)
  | lv {xs : List Val} {a : Addr} {vs : List V} : SqF T.K H a vs → Reps T ι H xs vs → Rep T ι H (.lv xs) (.ref a)
  | ref {i : Nat} {a : Addr} : ι[i]? = some a → Rep T ι H (.ref i) (.ref a)
inductive Reps (T : Tb) (ι : List Addr) (H : Hp) : List Val → List V → Prop
  | nil : Reps T ι H [] []
  | cons {x : Val} {v : V} {xs : List Val} {vs : List V} : Rep T ι H x v → Reps T ι H xs vs → Reps T ι H (x :: xs) (v :: vs)
end

/-- fields -/
inductive RepF (T : Tb) (ι : List Addr) (H : Hp) : List (Nat × Val) → List (Str × V) → Prop
  | nil : RepF T ι H [] []
  | cons {f : Nat} {x : Val} {v : V} {fs : List (Nat × Val)} {gs : List (Str × V)} : Rep T ι H x v → RepF T ι H fs gs → RepF T ι H ((f, x) :: fs) ((T.nm f, v) :: gs)
def key1? : Val → Option L2.Key
  | .int i => some (.inl i)
  | .str s => some (.inr s)
  | _ => none
def keyT? : Val → Option (List L2.Key)
  | .tup xs => xs.mapM key1?
  | _ => none
/-- a dict's pairs, keys told by g -/
inductive RepK {κ : Type} (g : Val → Option κ) (T : Tb) (ι : List Addr) (H : Hp) : List (Val × Val) → List (κ × V) → Prop
  | nil : RepK g T ι H [] []
  | cons {k : Val} {k' : κ} {x : Val} {v : V} {r : List (Val × Val)} {r' : List (κ × V)} : g k = some k' → Rep T ι H x v → RepK g T ι H r r' → RepK g T ι H ((k, x) :: r) ((k', v) :: r')

inductive ORep (T : Tb) (ι : List Addr) (H : Hp) : Ob → Addr → Prop
  | lst {xs : List Val} {vs : List V} {a : Addr} : H a = some (.lst vs) → Reps T ι H xs vs → ORep T ι H (.lst xs) a
  | dK {kvs : List (Val × Val)} {ks : List (L2.Key × V)} {a : Addr} : H a = some (.dK ks) → RepK key1? T ι H kvs ks → ORep T ι H (.dct kvs) a
  | dT {kvs : List (Val × Val)} {ks : List (List L2.Key × V)} {a : Addr} : H a = some (.dT ks) → RepK keyT? T ι H kvs ks → ORep T ι H (.dct kvs) a
  | set {xs : List Int} {S : Int → Bool} {a : Addr} : H a = some (L2.SetO T.w a S xs.length) → xs.Nodup → (∀ i, S i = true ↔ i ∈ xs) → ORep T ι H (.set xs) a
  | ins {c : Nat} {C dx : Addr} {fs : List (Nat × Val)} {gs : List (Str × V)} {a : Addr} : H a = some (.ins C dx gs) → T.cl c = some C → RepF T ι H fs gs → ORep T ι H (.ins c fs) a

structure Sim (T : Tb) (ι : List Addr) (h : Hip) (H : Hp) : Prop where
  nd : ι.Nodup
  len : h.length = ι.length
  ob : ∀ (i : Nat) (a : Addr) (o : Ob), ι[i]? = some a → h[i]? = some o → ORep T ι H o a

/-- what a step of the program leaves as it was -/
structure Ext (ι : List Addr) (H : Hp) (ι' : List Addr) (H' : Hp) : Prop where
  pre : ι <+: ι'
  keep : ∀ a o, H a = some o → (a ∉ ι ∨ ¬ Mut (some o)) → H' a = some o
  fresh : ∀ a ∈ ι', a ∉ ι → H a = none

/-- slots -/
structure Env' (T : Tb) (ι : List Addr) (H : Hp) (ρ : Env) (σ : L2.St) : Prop where
  len : ρ.length = σ.length
  at_ : ∀ (i : Nat) (v : Val), ρ[i]? = some (some v) → ∃ u, σ[i]? = some (some u) ∧ Rep T ι H v u

section
variable {T : Tb} {ι ι' ι2 : List Addr} {H H' H2 : Hp} {h h' : Hip}

theorem Reps.length : ∀ {xs : List Val} {vs : List V}, Reps T ι H xs vs → xs.length = vs.length
  | _, _, .nil => rfl
  | _, _, .cons _ r => by simp [Reps.length r]
theorem Reps.get : ∀ {xs : List Val} {vs : List V} {i : Nat} {x : Val}, Reps T ι H xs vs → xs[i]? = some x → ∃ v, vs[i]? = some v ∧ Rep T ι H x v
  | _, _, _, _, .nil, e => by simp at e
  | _, _, 0, _, .cons r _, e => by simp at e; subst e; exact ⟨_, rfl, r⟩
  | _, _, i + 1, x, .cons _ t, e => by
    obtain ⟨v, h1, h2⟩ := Reps.get (i := i) (x := x) t (by simpa using e)
    exact ⟨v, by simpa using h1, h2⟩
theorem Reps.append : ∀ {xs ys : List Val} {vs ws : List V}, Reps T ι H xs vs → Reps T ι H ys ws → Reps T ι H (xs ++ ys) (vs ++ ws)
  | _, _, _, _, .nil, s => s
  | _, _, _, _, .cons r t, s => .cons r (Reps.append t s)
theorem Reps.take : ∀ {xs : List Val} {vs : List V} (n : Nat), Reps T ι H xs vs → Reps T ι H (xs.take n) (vs.take n)
  | _, _, 0, _ => .nil
  | _, _, _ + 1, .nil => .nil
  | _, _, n + 1, .cons r t => .cons r (Reps.take n t)
theorem Reps.drop : ∀ {xs : List Val} {vs : List V} (n : Nat), Reps T ι H xs vs → Reps T ι H (xs.drop n) (vs.drop n)
  | _, _, 0, r => r
  | _, _, _ + 1, .nil => .nil
  | _, _, n + 1, .cons _ t => Reps.drop n t
theorem Reps.reverse : ∀ {xs : List Val} {vs : List V}, Reps T ι H xs vs → Reps T ι H xs.reverse vs.reverse
  | _, _, .nil => .nil
  | _, _, .cons r t => by
    rw [List.reverse_cons, List.reverse_cons]
    exact Reps.append (Reps.reverse t) (.cons r .nil)
theorem Reps.set {x : Val} {v : V} (r : Rep T ι H x v) : ∀ {xs : List Val} {vs : List V} (i : Nat), Reps T ι H xs vs → Reps T ι H (xs.set i x) (vs.set i v)
  | _, _, _, .nil => .nil
  | _, _, 0, .cons _ t => .cons r t
  | _, _, i + 1, .cons q t => .cons q (Reps.set r i t)

theorem Ext.refl : Ext ι H ι H := ⟨List.prefix_rfl, fun _ _ e _ => e, fun a h n => absurd h n⟩
theorem Ext.sub (e : Ext ι H ι' H') {a : Addr} (h : a ∈ ι) : a ∈ ι' := e.pre.subset h
theorem Ext.at (e : Ext ι H ι' H') {i : Nat} {a : Addr} (h : ι[i]? = some a) : ι'[i]? = some a := by
  obtain ⟨t, rfl⟩ := e.pre
  exact (List.getElem?_append_left (List.getElem?_eq_some_iff.mp h).1).trans h
theorem Ext.trans (e : Ext ι H ι' H') (f : Ext ι' H' ι2 H2) : Ext ι H ι2 H2 := by
  refine ⟨e.pre.trans f.pre, fun a o q c => ?_, fun a m n => ?_⟩
  · refine f.keep a o (e.keep a o q c) ?_
    rcases c with c | c
    · by_cases m : a ∈ ι'
      · rw [e.fresh a m c] at q; cases q
      · exact .inl m
    · exact .inr c
  · by_cases m' : a ∈ ι'
    · exact e.fresh a m' n
    · have := f.fresh a m m'
      cases q : H a with
      | none => rfl
      | some o => rw [e.keep a o q (.inl n)] at this; cases this
/-- tuples stay, places stay -/
structure Ext0 (ι : List Addr) (H : Hp) (ι' : List Addr) (H' : Hp) : Prop where
  at_ : ∀ {i : Nat} {a : Addr}, ι[i]? = some a → ι'[i]? = some a
  keep : ∀ a o, H a = some o → ¬ Mut (some o) → H' a = some o
theorem Ext.to0 (e : Ext ι H ι' H') : Ext0 ι H ι' H' := ⟨e.at, fun a o q m => e.keep a o q (.inr m)⟩
theorem Ext0.tup (e : Ext0 ι H ι' H') {a : Addr} {vs : List V} (q : SqT T.K H a vs) : SqT T.K H' a vs := by
  rcases q with q | q
  · rcases q with q | ⟨o, q⟩
    · exact .inl (.inl (e.keep a _ q fun z => z))
    · exact .inl (.inr ⟨o, e.keep a _ q fun z => z⟩)
  · exact .inr q
theorem Ext.tup (e : Ext ι H ι' H') {a : Addr} {vs : List V} (q : SqT T.K H a vs) : SqT T.K H' a vs := e.to0.tup q
theorem Ext0.frz (e : Ext0 ι H ι' H') {a : Addr} {vs : List V} (q : SqF T.K H a vs) : SqF T.K H' a vs := by
  rcases q with ⟨o, q⟩ | q
  · exact .inl ⟨o, e.keep a _ q fun z => z⟩
  · exact .inr q
theorem Ext.frz (e : Ext ι H ι' H') {a : Addr} {vs : List V} (q : SqF T.K H a vs) : SqF T.K H' a vs := e.to0.frz q
mutual
theorem Rep.mono0 (e : Ext0 ι H ι' H') : ∀ {x : Val} {v : V}, Rep T ι H x v → Rep T ι' H' x v
  | _, _, .non => .non
  | _, _, .bl b => .bl b
  | _, _, .int i => .int i
  | _, _, .str s => .str s
  | _, _, .tup q r => .tup (e.keep _ _ q fun z => z) (Reps.mono0 e r)
  | _, _, .ctp q r => .ctp q (Reps.mono0 e r)
  | _, _, .lv q r => .lv (e.frz q) (Reps.mono0 e r)
  | _, _, .ref q => .ref (e.at_ q)
theorem Reps.mono0 (e : Ext0 ι H ι' H') : ∀ {x : List Val} {v : List V}, Reps T ι H x v → Reps T ι' H' x v
  | _, _, .nil => .nil
  | _, _, .cons r q => .cons (Rep.mono0 e r) (Reps.mono0 e q)
end
theorem RepF.mono0 (e : Ext0 ι H ι' H') : ∀ {x : List (Nat × Val)} {v : List (Str × V)}, RepF T ι H x v → RepF T ι' H' x v
  | _, _, .nil => .nil
  | _, _, .cons r q => .cons (Rep.mono0 e r) (RepF.mono0 e q)
theorem RepK.mono0 {κ : Type} {g : Val → Option κ} (e : Ext0 ι H ι' H') : ∀ {x : List (Val × Val)} {v : List (κ × V)}, RepK g T ι H x v → RepK g T ι' H' x v
  | _, _, .nil => .nil
  | _, _, .cons k r q => .cons k (Rep.mono0 e r) (RepK.mono0 e q)
theorem Rep.mono (e : Ext ι H ι' H') {x : Val} {v : V} (r : Rep T ι H x v) : Rep T ι' H' x v := r.mono0 e.to0
theorem Reps.mono (e : Ext ι H ι' H') {x : List Val} {v : List V} (r : Reps T ι H x v) : Reps T ι' H' x v := r.mono0 e.to0
theorem RepF.mono (e : Ext ι H ι' H') {x : List (Nat × Val)} {v : List (Str × V)} (r : RepF T ι H x v) : RepF T ι' H' x v := r.mono0 e.to0
theorem RepK.mono {κ : Type} {g : Val → Option κ} (e : Ext ι H ι' H') {x : List (Val × Val)} {v : List (κ × V)} (r : RepK g T ι H x v) : RepK g T ι' H' x v := r.mono0 e.to0
theorem Env'.mono {ρ : Env} {σ : L2.St} (r : Env' T ι H ρ σ) (e : Ext ι H ι' H') : Env' T ι' H' ρ σ :=
  ⟨r.len, fun i v q => let ⟨u, a, b⟩ := r.at_ i v q; ⟨u, a, b.mono e⟩⟩
theorem Env'.set {ρ : Env} {σ : L2.St} (r : Env' T ι H ρ σ) {i : Nat} {x : Val} {v : V} (q : Rep T ι H x v) : Env' T ι H (ρ.set i (some x)) (σ.set i (some v)) := by
  refine ⟨by simp [r.len], fun j y e => ?_⟩
  by_cases hj : i = j
  · subst hj
    have hl : i < ρ.length := by
      have := (List.getElem?_eq_some_iff.mp e).1
      simpa using this
    rw [List.getElem?_set_self hl] at e
    cases e
    exact ⟨v, List.getElem?_set_self (by rw [← r.len]; exact hl), q⟩
  · rw [List.getElem?_set_ne hj] at e ⊢
    exact r.at_ j y e

/-- an object of the heap may be written -/
theorem ORep.mut {o : Ob} {a : Addr} (r : ORep T ι H o a) : Mut (H a) := by
  cases r with
  | lst e _ => rw [e]; exact True.intro
  | dK e _ => rw [e]; exact True.intro
  | dT e _ => rw [e]; exact True.intro
  | set e _ _ => rw [e]; exact True.intro
  | ins e _ _ => rw [e]; exact True.intro
theorem mut_some {o : Option HO} (h : Mut o) : ∃ u, o = .some u := by
  cases o with
  | none => exact h.elim
  | some u => exact ⟨u, rfl⟩
theorem ORep.mono0 {o : Ob} {a : Addr} (r : ORep T ι H o a) (e : Ext0 ι H ι' H') (q : H' a = H a) : ORep T ι' H' o a := by
  cases r with
  | lst e1 r => exact .lst (q.trans e1) (r.mono0 e)
  | dK e1 r => exact .dK (q.trans e1) (r.mono0 e)
  | dT e1 r => exact .dT (q.trans e1) (r.mono0 e)
  | set e1 n r => exact .set (q.trans e1) n r
  | ins e1 c r => exact .ins (q.trans e1) c (r.mono0 e)
theorem ORep.mono {o : Ob} {a : Addr} (r : ORep T ι H o a) (e : Ext ι H ι' H') (q : H' a = H a) : ORep T ι' H' o a := r.mono0 e.to0 q
theorem Sim.get (s : Sim T ι h H) {i : Nat} {o : Ob} (e : h[i]? = some o) : ∃ a, ι[i]? = some a ∧ ORep T ι H o a := by
  have hi : i < ι.length := by rw [← s.len]; exact (List.getElem?_eq_some_iff.mp e).1
  exact ⟨ι[i], List.getElem?_eq_getElem hi, s.ob i _ o (List.getElem?_eq_getElem hi) e⟩
theorem Sim.at (s : Sim T ι h H) {i : Nat} {a : Addr} {o : Ob} (q : ι[i]? = some a) (e : h[i]? = some o) : ORep T ι H o a := s.ob i a o q e
theorem Sim.has (s : Sim T ι h H) {a : Addr} (m : a ∈ ι) : ∃ u, H a = .some u ∧ Mut (.some u) := by
  obtain ⟨i, hi, e⟩ := List.getElem_of_mem m
  have q : ι[i]? = .some a := by rw [List.getElem?_eq_getElem hi, e]
  have hh : i < h.length := by rw [s.len]; exact hi
  have r := s.ob i a _ q (List.getElem?_eq_getElem hh)
  obtain ⟨u, z⟩ := mut_some r.mut
  exact ⟨u, z, z ▸ r.mut⟩
/-- nothing but what is not of the heap changes -/
theorem Sim.mono (s : Sim T ι h H) (e : Ext ι H ι H') (q : ∀ a ∈ ι, H' a = H a) : Sim T ι h H' :=
  ⟨s.nd, s.len, fun i a o h1 h2 => (s.ob i a o h1 h2).mono e (q a (List.mem_of_getElem? h1))⟩
/-- a new thing that is not of the heap (a tuple) -/
theorem Ext.laid {p : Addr} {u : HO} (hp : H p = none) : Ext ι H ι (upd H p u) :=
  ⟨List.prefix_rfl, fun a o e _ => by rw [upd_ne (L2.ne_of_none e hp)]; exact e, fun a m n => absurd m n⟩
theorem Sim.laid (s : Sim T ι h H) {p : Addr} {u : HO} (hp : H p = none) : Sim T ι h (upd H p u) :=
  s.mono (Ext.laid hp) fun a m => by
    obtain ⟨o, e, _⟩ := s.has m
    exact upd_ne (L2.ne_of_none e hp)
theorem Sim.notin (s : Sim T ι h H) {p : Addr} (hp : H p = none) : p ∉ ι := fun m => by
  obtain ⟨o, e, _⟩ := s.has m
  rw [hp] at e; cases e
/-- a new object of the heap, already laid -/
theorem Ext.push {p : Addr} {u : HO} (hp : H p = none) : Ext ι H (ι ++ [p]) (upd H p u) :=
  ⟨List.prefix_append _ _, fun a o e _ => by rw [upd_ne (L2.ne_of_none e hp)]; exact e, fun a m n => by
    rcases List.mem_append.mp m with m | m
    · exact absurd m n
    · rw [List.mem_singleton.mp m]; exact hp⟩
theorem Ext0.push {p : Addr} {u : HO} (hp : ∀ o, H p = some o → Mut (some o)) : Ext0 ι H (ι ++ [p]) (upd H p u) :=
  ⟨fun {i a} q => (List.getElem?_append_left (List.getElem?_eq_some_iff.mp q).1).trans q, fun a o e m => by
    rw [upd_ne]
    · exact e
    · rintro rfl; exact m (hp o e)⟩
theorem Sim.push0 (s : Sim T ι h H) {p : Addr} {u : HO} {o : Ob} (np : p ∉ ι) (hp : ∀ o, H p = some o → Mut (some o)) (r : ORep T (ι ++ [p]) (upd H p u) o p) : Sim T (ι ++ [p]) (h ++ [o]) (upd H p u) := by
  refine ⟨?_, by simp [s.len], fun i a o' h1 h2 => ?_⟩
  · rw [List.nodup_append]
    refine ⟨s.nd, by simp, fun a ha b hb => ?_⟩
    rw [List.mem_singleton.mp hb]
    rintro rfl
    exact np ha
  · by_cases hi : i < ι.length
    · rw [List.getElem?_append_left hi] at h1
      rw [List.getElem?_append_left (by rw [s.len]; exact hi)] at h2
      have r' := s.ob i a o' h1 h2
      exact r'.mono0 (Ext0.push hp) (upd_ne fun z => np (z ▸ List.mem_of_getElem? h1))
    · have hi1 : i < (ι ++ [p]).length := (List.getElem?_eq_some_iff.mp h1).1
      have e : i = ι.length := by simp at hi1; omega
      subst e
      rw [List.getElem?_append_right (Nat.le_refl _)] at h1
      rw [List.getElem?_append_right (by rw [s.len] <;> exact Nat.le_refl _), s.len] at h2
      simp at h1 h2
      subst h1; subst h2
      exact r
theorem Sim.push' (s : Sim T ι h H) {p : Addr} {u : HO} {o : Ob} (hp : H p = none) (r : ORep T (ι ++ [p]) (upd H p u) o p) : Sim T (ι ++ [p]) (h ++ [o]) (upd H p u) :=
  s.push0 (s.notin hp) (fun o e => by rw [hp] at e; cases e) r
/-- an object of the heap is written -/
theorem Ext.wr {a : Addr} {u : HO} (m : a ∈ ι) (hm : Mut (H a)) : Ext ι H ι (upd H a u) :=
  ⟨List.prefix_rfl, fun b o e c => by
    refine (upd_ne ?_).trans e
    rintro rfl
    rcases c with c | c
    · exact c m
    · rw [e] at hm; exact c hm, fun b m n => absurd m n⟩
theorem Sim.wr (s : Sim T ι h H) {i : Nat} {a : Addr} {u : HO} {o : Ob} (q : ι[i]? = .some a) (r : ORep T ι (upd H a u) o a) : Sim T ι (h.set i o) (upd H a u) := by
  have hi : i < ι.length := (List.getElem?_eq_some_iff.mp q).1
  have hh : i < h.length := by rw [s.len]; exact hi
  have ma := List.mem_of_getElem? q
  obtain ⟨u0, e0, m0⟩ := s.has ma
  refine ⟨s.nd, by simp [s.len], fun j b o' h1 h2 => ?_⟩
  by_cases hj : i = j
  · subst hj
    rw [q] at h1; cases h1
    rw [List.getElem?_set_self hh] at h2; cases h2
    exact r
  · rw [List.getElem?_set_ne hj] at h2
    have r' := s.ob j b o' h1 h2
    refine r'.mono (Ext.wr ma (by rw [e0]; exact m0)) (upd_ne ?_)
    rintro rfl
    have hj' : j < ι.length := (List.getElem?_eq_some_iff.mp h1).1
    have := (List.getElem_inj (h₀ := hi) (h₁ := hj') s.nd).mp (by
      have e1 := (List.getElem?_eq_some_iff.mp q).2
      have e2 := (List.getElem?_eq_some_iff.mp h1).2
      rw [e1, e2])
    exact hj this
end
end Z

set_option maxRecDepth 100000
/-! Z3: the operators keep their word. -/
namespace Z
open PySem (Str Value Addr Obj Shared Expr Stmt Pos Sem Tok sizeLine sizeLine_eq wpAny model binaryOp compareOp inplaceOp unaryOp call)
open L2

/-- what is wanted behind: of each state that stands for the one told -/
def Pst (T : Tb) (ι : List Addr) (H : Hp) (v : Val) (h' : Hip) (Q : VK) : Prop :=
  ∀ ι' H' V, Ext ι H ι' H' → Sim T ι' h' H' → Rep T ι' H' v V → Q V H'
theorem Pst.mono {T : Tb} {ι ι' : List Addr} {H H' : Hp} {v : Val} {h' : Hip} {Q : VK} (q : Pst T ι H v h' Q) (e : Ext ι H ι' H') : Pst T ι' H' v h' Q :=
  fun _ _ _ e2 s r => q _ _ _ (e.trans e2) s r

abbrev F2 := Val → Val → Hip → Res Val
abbrev F1 := Val → Hip → Res Val
abbrev FN := List Val → Hip → Res Val
/-- an operation by what the language says -/
def rO2 (T : Tb) (f : F2) : R2 := fun x y H Q => ∃ ι h a b v h', Sim T ι h H ∧ Rep T ι H a x ∧ Rep T ι H b y ∧ f a b h = .ok v h' ∧ Pst T ι H v h' Q
def rO1 (T : Tb) (f : F1) : V → Hp → VK → Prop := fun x H Q => ∃ ι h a v h', Sim T ι h H ∧ Rep T ι H a x ∧ f a h = .ok v h' ∧ Pst T ι H v h' Q
def rON (T : Tb) (f : FN) : List V → Hp → VK → Prop := fun xs H Q => ∃ ι h as v h', Sim T ι h H ∧ Reps T ι H as xs ∧ f as h = .ok v h' ∧ Pst T ι H v h' Q
def rOM (T : Tb) (f : Val → FN) : V → List V → Hp → VK → Prop := fun x xs H Q => ∃ ι h a as v h', Sim T ι h H ∧ Rep T ι H a x ∧ Reps T ι H as xs ∧ f a as h = .ok v h' ∧ Pst T ι H v h' Q

section
variable {T : Tb} {ι : List Addr} {H : Hp} {h : Hip} {Q : VK}
/-- the ways on: a value that is no new object; a new one -/
theorem Pst.val {v : Val} {V : V} (q : Pst T ι H v h Q) (s : Sim T ι h H) (r : Rep T ι H v V) : Q V H := q ι H V .refl s r
theorem Pst.tup {xs : List Val} {vs : List V} {p : Addr} (q : Pst T ι H (.tup xs) h Q) (s : Sim T ι h H) (r : Reps T ι H xs vs) (hp : H p = none) : Q (.ref p) (upd H p (.tup vs)) :=
  q ι _ _ (Ext.laid hp) (s.laid hp) (.tup upd_same (r.mono (Ext.laid hp)))
theorem new_get (ι : List Addr) (p : Addr) : (ι ++ [p])[ι.length]? = some p := by simp
theorem Pst.new {o : Ob} {u : HO} {p : Addr} (q : Pst T ι H (.ref h.length) (h ++ [o]) Q) (s : Sim T ι h H) (hp : H p = none) (r : ORep T (ι ++ [p]) (upd H p u) o p) : Q (.ref p) (upd H p u) :=
  q _ _ _ (Ext.push hp) (s.push' hp r) (.ref (by rw [s.len]; exact new_get ι p))
theorem Pst.lst {xs : List Val} {vs : List V} {p : Addr} (q : Pst T ι H (.ref h.length) (h ++ [.lst xs]) Q) (s : Sim T ι h H) (r : Reps T ι H xs vs) (hp : H p = none) : Q (.ref p) (upd H p (.lst vs)) :=
  q.new s hp (.lst upd_same (r.mono (Ext.push hp)))

/-! ### what values are -/
theorem rep_int {i : Int} {x : V} (r : Rep T ι H (.int i) x) : x = .int i := by cases r; rfl
theorem rep_bl {i : Bool} {x : V} (r : Rep T ι H (.bl i) x) : x = .bl i := by cases r; rfl
theorem rep_str {i : Str} {x : V} (r : Rep T ι H (.str i) x) : x = .str i := by cases r; rfl
theorem rep_non {x : V} (r : Rep T ι H .non x) : x = .non := by cases r; rfl
theorem rep_tup {xs : List Val} {x : V} (r : Rep T ι H (.tup xs) x) : ∃ a vs, x = .ref a ∧ H a = some (.tup vs) ∧ Reps T ι H xs vs := by
  cases r with | tup s q => exact ⟨_, _, rfl, s, q⟩
theorem rep_ctp {xs : List Val} {x : V} (r : Rep T ι H (.ctp xs) x) : ∃ a vs, x = .ref a ∧ (∀ H', SqT T.K H' a vs) ∧ Reps T ι H xs vs := by
  cases r with | ctp s q => exact ⟨_, _, rfl, s, q⟩
theorem rep_lv {xs : List Val} {x : V} (r : Rep T ι H (.lv xs) x) : ∃ a vs, x = .ref a ∧ SqF T.K H a vs ∧ Reps T ι H xs vs := by
  cases r with | lv s q => exact ⟨_, _, rfl, s, q⟩
theorem rep_ref {i : Nat} {x : V} (r : Rep T ι H (.ref i) x) : ∃ a, x = .ref a ∧ ι[i]? = some a := by
  cases r with | ref q => exact ⟨_, rfl, q⟩
theorem orep_lst {xs : List Val} {a : Addr} (r : ORep T ι H (.lst xs) a) : ∃ vs, H a = some (.lst vs) ∧ Reps T ι H xs vs := by
  cases r with | lst e q => exact ⟨_, e, q⟩
/-- a list of the heap -/
theorem sim_lst (s : Sim T ι h H) {i : Nat} {x : V} {xs : List Val} (r : Rep T ι H (.ref i) x) (e : h[i]? = some (.lst xs)) : ∃ a vs, x = .ref a ∧ ι[i]? = some a ∧ H a = some (.lst vs) ∧ Reps T ι H xs vs := by
  obtain ⟨a, rfl, q⟩ := rep_ref r
  obtain ⟨vs, e2, q2⟩ := orep_lst (s.at q e)
  exact ⟨a, vs, rfl, q, e2, q2⟩
theorem SZ_le {n : Nat} (e : fits n = true) : n < sizeLine := by
  have := of_decide_eq_true e
  rw [sizeLine_eq]
  exact this

/-- what is told wholly, as the layer's data -/
theorem dats_nil : dats [] = [] := by rw [dats]
theorem dats_cons (x : Val) (xs : List Val) : dats (x :: xs) = dat x :: dats xs := by rw [dats]
mutual
theorem deepW_dp {rec : Nat → Option Val} (hrec : ∀ a d V, rec a = some d → Rep T ι H (.ref a) V → Dp T.K H V (dat d)) :
    ∀ (v d : Val) (V : V), deepW rec v = some d → Rep T ι H v V → Dp T.K H V (dat d)
  | .non, d, V, e, r => by cases r; simp only [deepW, Option.some.injEq] at e; subst e; simpa only [dat] using Dp.non
  | .bl b, d, V, e, r => by cases r; simp only [deepW, Option.some.injEq] at e; subst e; simpa only [dat] using Dp.bl b
  | .int b, d, V, e, r => by cases r; simp only [deepW, Option.some.injEq] at e; subst e; simpa only [dat] using Dp.int b
  | .str b, d, V, e, r => by cases r; simp only [deepW, Option.some.injEq] at e; subst e; simpa only [dat] using Dp.str b
  | .ref a, d, V, e, r => hrec a d V (by simpa only [deepW] using e) r
  | .tup xs, d, V, e, r => by
    obtain ⟨a, vs, rfl, s, q⟩ := rep_tup r
    simp only [deepW] at e
    obtain ⟨ds, e1, rfl⟩ := Option.map_eq_some_iff.mp e
    simp only [dat]
    exact Dp.tup (SqT.of s) (deepWs_dp hrec xs ds vs e1 q)
  | .ctp xs, d, V, e, r => by
    obtain ⟨a, vs, rfl, s, q⟩ := rep_ctp r
    simp only [deepW] at e
    obtain ⟨ds, e1, rfl⟩ := Option.map_eq_some_iff.mp e
    simp only [dat]
    exact Dp.tup (s H) (deepWs_dp hrec xs ds vs e1 q)
  | .lv xs, d, V, e, r => by
    obtain ⟨a, vs, rfl, s, q⟩ := rep_lv r
    simp only [deepW] at e
    obtain ⟨ds, e1, rfl⟩ := Option.map_eq_some_iff.mp e
    simp only [dat]
    exact Dp.lst s.sq (deepWs_dp hrec xs ds vs e1 q)
theorem deepWs_dp {rec : Nat → Option Val} (hrec : ∀ a d V, rec a = some d → Rep T ι H (.ref a) V → Dp T.K H V (dat d)) :
    ∀ (v d : List Val) (V : List V), deepWs rec v = some d → Reps T ι H v V → DpAll T.K H V (dats d)
  | [], d, V, e, r => by cases r; simp only [deepWs, Option.some.injEq] at e; subst e; rw [dats_nil]; exact .nil
  | x :: xs, d, V, e, r => by
    cases r with
    | cons r1 r2 =>
      simp only [deepWs] at e
      split at e
      · rename_i y ey
        obtain ⟨ds, e1, rfl⟩ := Option.map_eq_some_iff.mp e
        rw [dats_cons]
        exact .cons (deepW_dp hrec x y _ ey r1) (deepWs_dp hrec xs ds _ e1 r2)
      · cases e
end
theorem deepN_dp (s : Sim T ι h H) : ∀ (n a : Nat) (d : Val) (V : V), deepN h n a = some d → Rep T ι H (.ref a) V → Dp T.K H V (dat d)
  | 0, a, d, V, e, r => by simp [deepN] at e
  | n + 1, a, d, V, e, r => by
    simp only [deepN] at e
    split at e
    · rename_i xs ex
      obtain ⟨ds, e1, rfl⟩ := Option.map_eq_some_iff.mp e
      obtain ⟨p, vs, rfl, _, e2, q⟩ := sim_lst s r ex
      simp only [dat]
      exact Dp.lst (SqL.of e2) (deepWs_dp (deepN_dp s n) xs ds vs e1 q)
    · cases e
theorem deep_dp (s : Sim T ι h H) {v d : Val} {V : V} (e : deep h v = some d) (r : Rep T ι H v V) : Dp T.K H V (dat d) :=
  deepW_dp (deepN_dp s 6) v d V e r
theorem eqOp_dp (s : Sim T ι h H) {x y : Val} {X Y : V} {b : Bool} (e : eqOp h x y = some b) (rx : Rep T ι H x X) (ry : Rep T ι H y Y) :
    ∃ d e, Dp T.K H X d ∧ Dp T.K H Y e ∧ PySem.SeqAt.shaped d = true ∧ PySem.SeqAt.shaped e = true ∧ b = PySem.PyData.eqv d e := by
  unfold eqOp at e
  split at e
  · rename_i a c ea ec
    split at e
    · rename_i hs
      rw [Bool.and_eq_true] at hs
      cases e
      exact ⟨dat a, dat c, deep_dp s ea rx, deep_dp s ec ry, hs.1, hs.2, rfl⟩
    · cases e
  · cases e
end

/-! ### arithmetic, concatenation -/
section
variable {T : Tb} {X : Cx} (hK : X.K = T.K)
theorem seqIx {n : Nat} {i : Int} : nIx n i = ixN n i := rfl
theorem mulOk_C {i j : Int} (e : mulOk i j = true) : CMul i j := by
  unfold mulOk at e
  rw [Bool.or_eq_true, decide_eq_true_eq, decide_eq_true_eq] at e
  unfold CMul
  rcases e with e | e
  · left; omega
  · right; omega
theorem repl_eq {α : Type} (g : Nat → α) (xs : List Val) (n : Nat) : repl xs n = (List.replicate n xs).flatten := by
  induction n with
  | zero => rfl
  | succ n ih => rw [repl, ih, List.replicate_succ, List.flatten_cons]
theorem Reps.repl {ι : List Addr} {H : Hp} {xs : List Val} {vs : List V} (r : Reps T ι H xs vs) (n : Nat) : Reps T ι H (repl xs n) (List.replicate n vs).flatten := by
  induction n with
  | zero => exact .nil
  | succ n ih => rw [Z.repl, List.replicate_succ, List.flatten_cons]; exact r.append ih
include hK in
theorem o_add : OpR X (binaryOp .Add) (rO2 T (binOp .add)) := by
  rintro pins s σ H x y v u Q I rx ry ⟨ι, h, a, b, w, h', sim, ra, rb, e, q⟩
  unfold binOp at e
  split at e <;> rename_i heq <;> try cases heq
  · -- ints
    cases e
    refine op_add pins s σ H x y v u Q I rx ry ⟨_, _, rep_int ra, rep_int rb, q.val sim (.int _)⟩
  · -- tuples
    split at e
    · rename_i hf
      cases e
      obtain ⟨p, vs, rfl, s1, r1⟩ := rep_tup ra
      obtain ⟨p2, ws, rfl, s2, r2⟩ := rep_tup rb
      have l1 := r1.length
      have l2 := r2.length
      have hl := SZ_le hf
      refine op_catA pins s σ H _ _ v u Q I rx ry ⟨p, p2, vs, ws, rfl, rfl, SqT.of s1, SqT.of s2, by rw [← l1, ← l2]; omega, fun e0 => ?_, fun _ e0 => ?_, fun _ _ p hp => q.tup sim (r1.append r2) hp⟩
      · subst e0
        cases r1
        exact q.val sim rb
      · subst e0
        cases r2
        rw [List.append_nil] at q
        exact q.val sim ra
    · cases e
  · -- lists
    split at e
    · rename_i xs ys e1 e2
      split at e
      · rename_i hf
        cases e
        obtain ⟨p, vs, rfl, _, s1, r1⟩ := sim_lst sim ra e1
        obtain ⟨p2, ws, rfl, _, s2, r2⟩ := sim_lst sim rb e2
        have l1 := r1.length
        have l2 := r2.length
        have hl := SZ_le hf
        exact op_cat pins s σ H _ _ v u Q I rx ry ⟨p, p2, vs, ws, rfl, rfl, s1, s2, by rw [← l1, ← l2]; omega, fun p hp => q.lst sim (r1.append r2) hp⟩
      · cases e
    · cases e
  · cases e
theorem o_sub : OpR X (binaryOp .Sub) (rO2 T (binOp .sub)) := by
  rintro pins s σ H x y v u Q I rx ry ⟨ι, h, a, b, w, h', sim, ra, rb, e, q⟩
  unfold binOp at e
  split at e <;> rename_i heq <;> try cases heq
  · cases e
    exact op_sub pins s σ H x y v u Q I rx ry ⟨_, _, rep_int ra, rep_int rb, q.val sim (.int _)⟩
  · cases e
theorem o_mul : OpR X (binaryOp .Mult) (rO2 T (binOp .mul)) := by
  rintro pins s σ H x y v u Q I rx ry ⟨ι, h, a, b, w, h', sim, ra, rb, e, q⟩
  unfold binOp at e
  split at e <;> rename_i heq <;> try cases heq
  · split at e
    · rename_i hm
      cases e
      exact op_mul pins s σ H x y v u Q I rx ry ⟨_, _, rep_int ra, rep_int rb, mulOk_C hm, q.val sim (.int _)⟩
    · cases e
  · split at e
    · rename_i xs e1
      split at e
      · rename_i hf
        rw [Bool.and_eq_true, Bool.and_eq_true, decide_eq_true_eq, decide_eq_true_eq] at hf
        cases e
        obtain ⟨p, vs, rfl, _, s1, r1⟩ := sim_lst sim ra e1
        have l1 := r1.length
        have hl := SZ_le hf.2
        refine op_rep pins s σ H _ _ v u Q I rx ry ⟨p, _, vs, rfl, rep_int rb, s1, by omega, by omega, by rw [← l1]; omega, fun p hp => q.lst sim (r1.repl _) hp⟩
      · cases e
    · cases e
  · cases e
theorem o_fdiv : OpR X (binaryOp .FloorDiv) (rO2 T (binOp .fdiv)) := by
  rintro pins s σ H x y v u Q I rx ry ⟨ι, h, a, b, w, h', sim, ra, rb, e, q⟩
  unfold binOp at e
  split at e <;> rename_i heq <;> try cases heq
  · split at e
    · rename_i hm
      rw [Bool.and_eq_true, decide_eq_true_eq, decide_eq_true_eq] at hm
      cases e
      exact op_fdiv pins s σ H x y v u Q I rx ry ⟨_, _, rep_int ra, rep_int rb, hm, q.val sim (.int _)⟩
    · cases e
  · cases e
theorem o_mod : OpR X (binaryOp .Mod) (rO2 T (binOp .mod)) := by
  rintro pins s σ H x y v u Q I rx ry ⟨ι, h, a, b, w, h', sim, ra, rb, e, q⟩
  unfold binOp at e
  split at e <;> rename_i heq <;> try cases heq
  · split at e
    · rename_i hm
      rw [decide_eq_true_eq] at hm
      cases e
      exact op_mod pins s σ H x y v u Q I rx ry ⟨_, _, rep_int ra, rep_int rb, hm, q.val sim (.int _)⟩
    · cases e
  · cases e
theorem o_pow : OpR X (binaryOp .Pow) (rO2 T (binOp .pow)) := by
  rintro pins s σ H x y v u Q I rx ry ⟨ι, h, a, b, w, h', sim, ra, rb, e, q⟩
  unfold binOp at e
  split at e <;> rename_i heq <;> try cases heq
  · split at e
    · rename_i hm
      rw [Bool.and_eq_true, Bool.and_eq_true, decide_eq_true_eq, decide_eq_true_eq, decide_eq_true_eq] at hm
      cases e
      exact op_pow pins s σ H x y v u Q I rx ry ⟨_, _, rep_int ra, rep_int rb, ⟨hm.1.1, hm.1.2, hm.2⟩, q.val sim (.int _)⟩
    · cases e
  · cases e
end
end Z

set_option maxRecDepth 100000
/-! Z4: comparisons, items, slices, built-in functions keep their word. -/
namespace Z
open PySem (Str Value Addr Obj Shared Expr Stmt Pos Sem Tok sizeLine sizeLine_eq wpAny model binaryOp compareOp inplaceOp unaryOp call cLine)
open L2

section
variable {T : Tb} {X : Cx}

/-- a comparison's answer -/
def cmpF (o : Cop) : F2 := fun x y h => ok? (cmpOp o x y h) .bl h
theorem cmpF_ok {o : Cop} {a b : Val} {h : Hip} {v : Val} {h' : Hip} (e : cmpF o a b h = .ok v h') : ∃ c, cmpOp o a b h = some c ∧ v = .bl c ∧ h' = h := by
  unfold cmpF ok? at e
  split at e
  · rename_i c ec
    cases e
    exact ⟨c, ec, rfl, rfl⟩
  · cases e
theorem c_eq (hK : X.K = T.K) (hu : X.A.units + 65 < cLine) : OpR X (compareOp .Eq) (rO2 T (cmpF .eq)) := by
  rintro pins s σ H x y v u Q I rx ry ⟨ι, h, a, b, w, h', sim, ra, rb, e, q⟩
  obtain ⟨c, ec, rfl, rfl⟩ := cmpF_ok e
  obtain ⟨d, f, h1, h2, h3, h4, rfl⟩ := eqOp_dp sim ec ra rb
  exact op_eqD (by omega) pins s σ H x y v u Q I rx ry ⟨d, f, hK ▸ h1, hK ▸ h2, h3, h4, q.val sim (.bl _)⟩
theorem c_ne (hK : X.K = T.K) (hu : X.A.units + 65 < cLine) : OpR X (compareOp .NotEq) (rO2 T (cmpF .ne)) := by
  rintro pins s σ H x y v u Q I rx ry ⟨ι, h, a, b, w, h', sim, ra, rb, e, q⟩
  obtain ⟨c, ec, rfl, rfl⟩ := cmpF_ok e
  obtain ⟨c', ec', rfl⟩ := Option.map_eq_some_iff.mp (show (eqOp h' a b).map (!·) = some c from ec)
  obtain ⟨d, f, h1, h2, h3, h4, rfl⟩ := eqOp_dp sim ec' ra rb
  exact op_neD (by omega) pins s σ H x y v u Q I rx ry ⟨d, f, hK ▸ h1, hK ▸ h2, h3, h4, q.val sim (.bl _)⟩
theorem cmp_ints {o : Cop} {a b : Val} {h : Hip} {c : Bool} (ho : o = .lt ∨ o = .le ∨ o = .gt ∨ o = .ge) (e : cmpOp o a b h = some c) : ∃ i j, a = .int i ∧ b = .int j ∧ intOp o i j = some c := by
  rcases ho with rfl | rfl | rfl | rfl <;>
  · unfold cmpOp at e
    cases a <;> cases b <;> first | exact ⟨_, _, rfl, rfl, e⟩ | cases e
theorem c_lt : OpR X (compareOp .Lt) (rO2 T (cmpF .lt)) := by
  rintro pins s σ H x y v u Q I rx ry ⟨ι, h, a, b, w, h', sim, ra, rb, e, q⟩
  obtain ⟨c, ec, rfl, rfl⟩ := cmpF_ok e
  obtain ⟨i, j, rfl, rfl, e2⟩ := cmp_ints (.inl rfl) ec
  cases e2
  exact op_lt pins s σ H x y v u Q I rx ry ⟨_, _, rep_int ra, rep_int rb, q.val sim (.bl _)⟩
theorem c_le : OpR X (compareOp .LtE) (rO2 T (cmpF .le)) := by
  rintro pins s σ H x y v u Q I rx ry ⟨ι, h, a, b, w, h', sim, ra, rb, e, q⟩
  obtain ⟨c, ec, rfl, rfl⟩ := cmpF_ok e
  obtain ⟨i, j, rfl, rfl, e2⟩ := cmp_ints (.inr (.inl rfl)) ec
  cases e2
  exact op_le pins s σ H x y v u Q I rx ry ⟨_, _, rep_int ra, rep_int rb, q.val sim (.bl _)⟩
theorem c_gt : OpR X (compareOp .Gt) (rO2 T (cmpF .gt)) := by
  rintro pins s σ H x y v u Q I rx ry ⟨ι, h, a, b, w, h', sim, ra, rb, e, q⟩
  obtain ⟨c, ec, rfl, rfl⟩ := cmpF_ok e
  obtain ⟨i, j, rfl, rfl, e2⟩ := cmp_ints (.inr (.inr (.inl rfl))) ec
  cases e2
  exact op_gt pins s σ H x y v u Q I rx ry ⟨_, _, rep_int ra, rep_int rb, q.val sim (.bl _)⟩
theorem c_ge : OpR X (compareOp .GtE) (rO2 T (cmpF .ge)) := by
  rintro pins s σ H x y v u Q I rx ry ⟨ι, h, a, b, w, h', sim, ra, rb, e, q⟩
  obtain ⟨c, ec, rfl, rfl⟩ := cmpF_ok e
  obtain ⟨i, j, rfl, rfl, e2⟩ := cmp_ints (.inr (.inr (.inr rfl))) ec
  cases e2
  exact op_ge pins s σ H x y v u Q I rx ry ⟨_, _, rep_int ra, rep_int rb, q.val sim (.bl _)⟩
theorem rep_isnon {ι : List Addr} {H : Hp} {a : Val} {x : V} (r : Rep T ι H a x) : decide (x = .non) = decide (a = .non) := by
  cases r <;> simp
theorem c_isN : OpR X (compareOp .Is) (rO2 T (cmpF .isN)) := by
  rintro pins s σ H x y v u Q I rx ry ⟨ι, h, a, b, w, h', sim, ra, rb, e, q⟩
  obtain ⟨c, ec, rfl, rfl⟩ := cmpF_ok e
  have ec : (if b = .non then some (decide (a = .non)) else none) = some c := ec
  split at ec
  · rename_i hb
    subst hb
    cases ec
    refine op_isN pins s σ H x y v u Q I rx ry ⟨rep_non rb, ?_⟩
    rw [rep_isnon ra]
    exact q.val sim (.bl _)
  · cases ec
theorem c_notN : OpR X (compareOp .IsNot) (rO2 T (cmpF .notN)) := by
  rintro pins s σ H x y v u Q I rx ry ⟨ι, h, a, b, w, h', sim, ra, rb, e, q⟩
  obtain ⟨c, ec, rfl, rfl⟩ := cmpF_ok e
  have ec : (if b = .non then some (!decide (a = .non)) else none) = some c := ec
  split at ec
  · rename_i hb
    subst hb
    cases ec
    refine op_notN pins s σ H x y v u Q I rx ry ⟨rep_non rb, ?_⟩
    rw [rep_isnon ra]
    exact q.val sim (.bl _)
  · cases ec

/-! ### in -/
theorem dats_map : ∀ ds : List Val, dats ds = ds.map dat
  | [] => by rw [dats]; rfl
  | x :: r => by rw [dats, dats_map r]; rfl
theorem any_dat (ds : List Val) (d : Val) : (dats ds).any (fun z => PySem.PyData.eqv z (dat d)) = ds.any fun z => peq z d := by
  rw [dats_map, List.any_map]; rfl
theorem amongOp_dp {ι : List Addr} {H : Hp} {h : Hip} (s : Sim T ι h H) {x y : Val} {X Y : V} {b : Bool} (e : amongOp h x y = some b) (rx : Rep T ι H x X) (ry : Rep T ι H y Y) :
    ∃ d ds, Dp T.K H X d ∧ (Dp T.K H Y (.list ds) ∧ PySem.SeqAt.shaped (.list ds) = true ∨ Dp T.K H Y (.tuple ds) ∧ PySem.SeqAt.shaped (.tuple ds) = true) ∧ PySem.SeqAt.shaped d = true ∧ b = ds.any fun z => PySem.PyData.eqv z d := by
  unfold amongOp at e
  split at e
  · rename_i d f ed ef
    split at e
    · rename_i ds ei
      split at e
      · rename_i hs
        rw [Bool.and_eq_true] at hs
        cases e
        have hf := deep_dp s ef ry
        have sf : PySem.SeqAt.shaped (dat f) = true := hs.2
        refine ⟨dat d, dats ds, deep_dp s ed rx, ?_, hs.1, (any_dat ds d).symm⟩
        unfold items? at ei
        split at ei
        · cases ei; simp only [dat] at hf sf; exact .inr ⟨hf, sf⟩
        · cases ei; simp only [dat] at hf sf; exact .inl ⟨hf, sf⟩
        · cases ei
      · cases e
    · cases e
  · cases e
/-- the keys of a dict -/
theorem key1_rep {ι : List Addr} {H : Hp} {x : Val} {X : V} {k : L2.Key} (e : key1? x = some k) (r : Rep T ι H x X) : X = kV k := by
  cases x with
  | int i => cases e; exact rep_int r
  | str i => cases e; exact rep_str r
  | _ => cases e
theorem keys_rep {ι : List Addr} {H : Hp} : ∀ {xs : List Val} {vs : List V} {ks : List L2.Key}, xs.mapM key1? = some ks → Reps T ι H xs vs → vs = ks.map kV
  | [], _, ks, e, r => by cases r; cases e; rfl
  | x :: xs, _, ks, e, r => by
    cases r with
    | cons r1 r2 =>
      rw [List.mapM_cons] at e
      cases e1 : key1? x with
      | none => rw [e1] at e; cases e
      | some k =>
        cases e2 : xs.mapM key1? with
        | none => rw [e1, e2] at e; cases e
        | some ks' =>
          rw [e1, e2] at e
          cases e
          rw [List.map_cons, key1_rep e1 r1, keys_rep e2 r2]
theorem key1_inj {x y : Val} {k : L2.Key} (e : key1? x = some k) (f : key1? y = some k) : x = y := by
  cases x <;> cases e <;> (cases y <;> cases f) <;> rfl
theorem keys_inj : ∀ {xs ys : List Val} {ks : List L2.Key}, xs.mapM key1? = some ks → ys.mapM key1? = some ks → xs = ys
  | [], [], _, _, _ => rfl
  | [], y :: ys, ks, e, f => by
    cases e
    rw [List.mapM_cons] at f
    cases e1 : key1? y with
    | none => rw [e1] at f; cases f
    | some k => cases e2 : ys.mapM key1? <;> rw [e1, e2] at f <;> cases f
  | x :: xs, ys, ks, e, f => by
    rw [List.mapM_cons] at e
    cases e1 : key1? x with
    | none => rw [e1] at e; cases e
    | some k =>
      cases e2 : xs.mapM key1? with
      | none => rw [e1, e2] at e; cases e
      | some ks' =>
        rw [e1, e2] at e
        cases e
        cases ys with
        | nil => cases f
        | cons y ys =>
          rw [List.mapM_cons] at f
          cases f1 : key1? y with
          | none => rw [f1] at f; cases f
          | some k2 =>
            cases f2 : ys.mapM key1? with
            | none => rw [f1, f2] at f; cases f
            | some ks2 =>
              rw [f1, f2] at f
              cases f
              rw [key1_inj e1 f1, keys_inj e2 f2]
theorem keyT_inj {x y : Val} {k : List L2.Key} (e : keyT? x = some k) (f : keyT? y = some k) : x = y := by
  cases x <;> first | (cases e; done) | skip
  cases y <;> first | (cases f; done) | skip
  rw [keys_inj (show List.mapM key1? _ = some k from e) (show List.mapM key1? _ = some k from f)]
theorem isKey1_some {x : Val} (e : isKey1 x = true) : ∃ k, key1? x = some k := by
  cases x <;> first | exact ⟨_, rfl⟩ | cases e
theorem mapM_some : ∀ {xs : List Val}, xs.all isKey1 = true → ∃ ks, xs.mapM key1? = some ks
  | [], _ => ⟨[], rfl⟩
  | x :: xs, h => by
    rw [List.all_cons, Bool.and_eq_true] at h
    obtain ⟨k, e1⟩ := isKey1_some h.1
    obtain ⟨ks, e2⟩ := mapM_some h.2
    exact ⟨k :: ks, by rw [List.mapM_cons, e1, e2]; rfl⟩
theorem isKeyT_some {x : Val} (e : isKeyT x = true) : ∃ k, keyT? x = some k := by
  cases x <;> first | exact mapM_some e | cases e
/-- what the dict holds at a key -/
theorem dget_rep {κ : Type} [DecidableEq κ] {g : Val → Option κ} (inj : ∀ {x y k}, g x = some k → g y = some k → x = y) {ι : List Addr} {H : Hp} {x : Val} {k : κ} (ek : g x = some k) :
    ∀ {kvs : List (Val × Val)} {ks : List (κ × V)}, RepK g T ι H kvs ks → (dget x kvs = none ∧ valV ks k = none) ∨ ∃ v V, dget x kvs = some v ∧ valV ks k = some V ∧ Rep T ι H v V
  | _, _, .nil => .inl ⟨rfl, rfl⟩
  | _, _, .cons (k := y) (k' := k') (x := v) (v := V) (r := r) (r' := r') e1 e2 e3 => by
    unfold dget
    by_cases hy : y = x
    · subst hy
      rw [ek] at e1; cases e1
      rw [if_pos rfl]
      exact .inr ⟨v, V, rfl, valV_pos rfl, e2⟩
    · rw [if_neg hy]
      have hk : ¬ k' = k := fun z => hy (inj e1 (z ▸ ek))
      rw [valV_neg hk]
      exact dget_rep inj ek e3
theorem dput_rep {κ : Type} [DecidableEq κ] {g : Val → Option κ} (inj : ∀ {x y k}, g x = some k → g y = some k → x = y) {ι : List Addr} {H : Hp} {x : Val} {k : κ} (ek : g x = some k) {v : Val} {V : V} (rv : Rep T ι H v V)
    {kvs : List (Val × Val)} {ks : List (κ × L2.V)} (r : RepK g T ι H kvs ks) : RepK g T ι H (dput x v kvs) (putK ks k V) := by
  have key : (kvs.any fun p => decide (p.1 = x)) = (ks.any fun p => decide (p.1 = k)) ∧
      RepK g T ι H (kvs.map fun p => if p.1 = x then (p.1, v) else p) (ks.map fun p => if p.1 = k then (p.1, V) else p) ∧ RepK g T ι H (kvs ++ [(x, v)]) (ks ++ [(k, V)]) := by
    induction r with
    | nil => exact ⟨rfl, .nil, .cons ek rv .nil⟩
    | @cons y k' z Z r r' e1 e2 e3 ih =>
      obtain ⟨h1, h2, h3⟩ := ih
      have hk : (y = x) ↔ (k' = k) := ⟨fun q => by subst q; rw [ek] at e1; cases e1; rfl, fun q => inj e1 (q ▸ ek)⟩
      refine ⟨?_, ?_, .cons e1 e2 h3⟩
      · rw [List.any_cons, List.any_cons, h1]
        congr 1
        exact decide_eq_decide.mpr hk
      · rw [List.map_cons, List.map_cons]
        by_cases hy : y = x
        · rw [if_pos hy, if_pos (hk.mp hy)]; exact .cons e1 rv h2
        · rw [if_neg hy, if_neg (fun q => hy (hk.mpr q))]; exact .cons e1 e2 h2
  unfold dput putK
  rw [key.1]
  split
  · exact key.2.1
  · exact key.2.2
end
end Z

set_option maxRecDepth 100000
/-! Z5: in, items, slices, built-in functions and methods keep their word. -/
namespace Z
open PySem (Str Value Addr Obj Shared Expr Stmt Pos Sem Tok sizeLine sizeLine_eq wpAny model binaryOp compareOp inplaceOp unaryOp call cLine)
open L2

/-- what the context must be like -/
structure Cal (T : Tb) (X : Cx) : Prop where
  K : X.K = T.K
  w : X.w = T.w
  calm : X.calm = true
  un : X.A.units + 190 < cLine
  gd : X.A.guards = some []

section
variable {T : Tb} {X : Cx}

theorem orep_dct {ι : List Addr} {H : Hp} {kvs : List (Val × Val)} {a : Addr} (r : ORep T ι H (.dct kvs) a) :
    (∃ ks, H a = some (.dK ks) ∧ RepK key1? T ι H kvs ks) ∨ ∃ ks, H a = some (.dT ks) ∧ RepK keyT? T ι H kvs ks := by
  cases r with
  | dK e q => exact .inl ⟨_, e, q⟩
  | dT e q => exact .inr ⟨_, e, q⟩
theorem orep_set {ι : List Addr} {H : Hp} {xs : List Int} {a : Addr} (r : ORep T ι H (.set xs) a) :
    ∃ S, H a = some (SetO T.w a S xs.length) ∧ xs.Nodup ∧ ∀ i, S i = true ↔ i ∈ xs := by
  cases r with
  | set e n q => exact ⟨_, e, n, q⟩
theorem repK1_all {ι : List Addr} {H : Hp} : ∀ {kvs : List (Val × Val)} {ks : List (L2.Key × V)}, RepK key1? T ι H kvs ks → kvs.all (fun p => isKeyT p.1) = true → kvs = []
  | _, _, .nil, _ => rfl
  | _, _, .cons (k := y) e1 _ _, h => by
    rw [List.all_cons, Bool.and_eq_true] at h
    cases y <;> first | cases e1; done | (have := h.1; cases this)
theorem repKT_all {ι : List Addr} {H : Hp} : ∀ {kvs : List (Val × Val)} {ks : List (List L2.Key × V)}, RepK keyT? T ι H kvs ks → kvs.all (fun p => isKey1 p.1) = true → kvs = []
  | _, _, .nil, _ => rfl
  | _, _, .cons (k := y) e1 _ _, h => by
    rw [List.all_cons, Bool.and_eq_true] at h
    cases y <;> first | cases e1; done | (have := h.1; cases this)
theorem repK_nil {κ : Type} {g : Val → Option κ} {ι : List Addr} {H : Hp} {ks : List (κ × V)} (r : RepK g T ι H [] ks) : ks = [] := by cases r; rfl
def keysOk (kvs : List (Val × Val)) (k : Val) : Bool := kvs.all (fun p => isKey1 p.1) && isKey1 k || kvs.all (fun p => isKeyT p.1) && isKeyT k
theorem set_self {α : Type} {l : List α} {i : Nat} {x : α} (e : l[i]? = some x) : l.set i x = l := by
  refine List.ext_getElem? fun j => ?_
  by_cases hj : i = j
  · subst hj
    rw [List.getElem?_set_self (List.getElem?_eq_some_iff.mp e).1, e]
  · rw [List.getElem?_set_ne hj]
/-- an empty dict of the one kind is one of the other kind -/
theorem dK_dT {P : PySem.Program} {w : PySem.World} {H : Hp} {h : PySem.Heap} {a : Addr} (ok : HOk P w H h) (e : H a = some (.dK [])) : ObjOk P w (upd H a (.dT [])) h a (.dT []) := by
  obtain ⟨z, hd, vs, rel, o, es, ep, h1, h2, h3, h4, h5, h6⟩ := dk_of ok e
  cases rel
  refine ⟨Nat.zero_le _, hd, [], .nil, o, es, ep, h1, h2, h3, ?_, List.nodup_nil⟩
  cases q : es.toList with
  | nil => rfl
  | cons x r => rw [q] at h5; cases h5
theorem dT_dK {P : PySem.Program} {w : PySem.World} {H : Hp} {h : PySem.Heap} {a : Addr} (ok : HOk P w H h) (e : H a = some (.dT [])) : ObjOk P w (upd H a (.dK [])) h a (.dK []) := by
  obtain ⟨z, hd, xs, rel, o, es, ep, h1, h2, h3, h4, h5⟩ := dt_of ok e
  cases rel
  have h4 : es.toList = [] := h4
  refine ⟨Nat.zero_le _, hd, [], .nil, o, es, ep, h1, h2, h3, fun z hz => ?_, by rw [h4]; exact .nil, List.nodup_nil⟩
  rw [← Array.mem_toList_iff, h4] at hz
  cases hz
/-- a dict, taken to be of the kind of a key that fits -/
theorem dict_at {pins : List (Addr × Obj)} {σ : L2.St} {s : Shared} {ι : List Addr} {H : Hp} {h : Hip} (I : Inv X pins σ H s) (sim : Sim T ι h H) {i : Nat} {kvs : List (Val × Val)} {x : Val} {X' Y : V} (e : h[i]? = some (.dct kvs)) (rx : Rep T ι H x X') (ry : Rep T ι H (.ref i) Y)
    (hk : keysOk kvs x = true) : ∃ a H1, Y = .ref a ∧ ι[i]? = some a ∧ Inv X pins σ H1 s ∧ Sim T ι h H1 ∧ Ext ι H ι H1 ∧
      ((∃ ks k, H1 a = some (.dK ks) ∧ RepK key1? T ι H1 kvs ks ∧ key1? x = some k ∧ X' = kV k) ∨
       (∃ ks k b, H1 a = some (.dT ks) ∧ RepK keyT? T ι H1 kvs ks ∧ keyT? x = some k ∧ X' = .ref b ∧ H1 b = some (.tup (k.map kV)))) := by
  obtain ⟨a, rfl, ea⟩ := rep_ref ry
  have ma := List.mem_of_getElem? ea
  obtain ⟨u0, e0, m0⟩ := sim.has ma
  have self : h.set i (.dct kvs) = h := set_self e
  unfold keysOk at hk
  rw [Bool.or_eq_true, Bool.and_eq_true, Bool.and_eq_true] at hk
  -- a tuple of keys, as it is tracked
  have tupk : ∀ {H1 : Hp} {k : List L2.Key}, Ext ι H ι H1 → keyT? x = some k → ∃ b, X' = .ref b ∧ H1 b = some (.tup (k.map kV)) := fun {H1 k} ext ek => by
    cases x <;> first | (cases ek; done) | skip
    obtain ⟨b, vs, rfl, s1, r1⟩ := rep_tup rx
    have ev := keys_rep (show List.mapM key1? _ = some k from ek) r1
    subst ev
    exact ⟨b, rfl, ext.keep b _ s1 (.inr fun z => z)⟩
  rcases orep_dct (sim.at ea e) with ⟨ks, eH, r⟩ | ⟨ks, eH, r⟩
  · rcases hk with ⟨_, h2⟩ | ⟨h1, h2⟩
    · obtain ⟨k, ek⟩ := isKey1_some h2
      exact ⟨a, H, rfl, ea, I, sim, .refl, .inl ⟨ks, k, eH, r, ek, key1_rep ek rx⟩⟩
    · have := repK1_all r h1
      subst this
      have := repK_nil r
      subst this
      obtain ⟨k, ek⟩ := isKeyT_some h2
      have ext : Ext ι H ι (upd H a (.dT [])) := Ext.wr ma (by rw [e0]; exact m0)
      obtain ⟨b, e1, e2⟩ := tupk ext ek
      have sim1 := sim.wr (u := .dT []) (o := .dct []) ea (.dT upd_same .nil)
      rw [self] at sim1
      exact ⟨a, _, rfl, ea, I.write (e := a) (t' := s.toks) (h' := s.heap) (by rw [eH]; exact True.intro) (.inl rfl) (fun _ _ _ q => q) (by obtain ⟨_, _, _, _, o, _, _, h1, _⟩ := dk_of I.hok eH; exact ⟨o, h1⟩) (dK_dT I.hok eH), sim1, ext, .inr ⟨[], k, b, upd_same, .nil, ek, e1, e2⟩⟩
  · rcases hk with ⟨h1, h2⟩ | ⟨_, h2⟩
    · have := repKT_all r h1
      subst this
      have := repK_nil r
      subst this
      obtain ⟨k, ek⟩ := isKey1_some h2
      have ext : Ext ι H ι (upd H a (.dK [])) := Ext.wr ma (by rw [e0]; exact m0)
      have sim1 := sim.wr (u := .dK []) (o := .dct []) ea (.dK upd_same .nil)
      rw [self] at sim1
      exact ⟨a, _, rfl, ea, I.write (e := a) (t' := s.toks) (h' := s.heap) (by rw [eH]; exact True.intro) (.inl rfl) (fun _ _ _ q => q) (by obtain ⟨_, _, _, _, o, _, _, h1, _⟩ := dt_of I.hok eH; exact ⟨o, h1⟩) (dT_dK I.hok eH), sim1, ext, .inl ⟨[], k, upd_same, .nil, ek, key1_rep ek rx⟩⟩
    · obtain ⟨k, ek⟩ := isKeyT_some h2
      obtain ⟨b, e1, e2⟩ := tupk .refl ek
      exact ⟨a, H, rfl, ea, I, sim, .refl, .inr ⟨ks, k, b, eH, r, ek, e1, e2⟩⟩

theorem keys_eq (kvs : List (Val × Val)) (k : Val) : (kvs.all (fun p => isKey1 p.1) && isKey1 k || kvs.all (fun p => isKeyT p.1) && isKeyT k) = keysOk kvs k := rfl
theorem dget_some {ι : List Addr} {H : Hp} {kvs : List (Val × Val)} {x : Val} {a : Addr} {X' : V}
    (r : (∃ ks k, H a = some (.dK ks) ∧ RepK key1? T ι H kvs ks ∧ key1? x = some k ∧ X' = kV k) ∨ (∃ ks k b, H a = some (.dT ks) ∧ RepK keyT? T ι H kvs ks ∧ keyT? x = some k ∧ X' = .ref b ∧ H b = some (.tup (k.map kV)))) :
    ∃ o, DGet H a X' o ∧ ((dget x kvs = none ∧ o = none) ∨ ∃ v V, dget x kvs = some v ∧ o = some V ∧ Rep T ι H v V) := by
  rcases r with ⟨ks, k, eH, r, ek, rfl⟩ | ⟨ks, k, b, eH, r, ek, rfl, eb⟩
  · refine ⟨_, DGet.k eH, ?_⟩
    rcases dget_rep (g := key1?) key1_inj ek r with ⟨p, q⟩ | ⟨v, V, p, q, rv⟩
    · exact .inl ⟨p, q⟩
    · exact .inr ⟨v, V, p, q, rv⟩
  · refine ⟨_, DGet.t eH eb, ?_⟩
    rcases dget_rep (g := keyT?) keyT_inj ek r with ⟨p, q⟩ | ⟨v, V, p, q, rv⟩
    · exact .inl ⟨p, q⟩
    · exact .inr ⟨v, V, p, q, rv⟩

/-! ### in, not in -/
/-- of a thing that is told wholly -/
theorem in_whole (c : Cal T X) {pins : List (Addr × Obj)} {σ : L2.St} {s : Shared} {ι : List Addr} {H : Hp} {h : Hip} {x y : Val} {Vx Vy : V} {v u : Value} {b : Bool} {Q : VK} (I : Inv X pins σ H s) (sim : Sim T ι h H) (rx : L2.RelV Vx v) (ry : L2.RelV Vy u)
    (ra : Rep T ι H x Vx) (rb : Rep T ι H y Vy) (e : amongOp h x y = some b) (q : Q (.bl b) H) : wpAny (model X.prog X.w) X.A (compareOp .In v u) (EP X pins σ Q) X.xe s := by
  obtain ⟨d, ds, h1, h2, h3, rfl⟩ := amongOp_dp sim e ra rb
  have hu := c.un
  rcases h2 with ⟨h2, s2⟩ | ⟨h2, s2⟩
  · exact op_inD (by omega) pins s σ H Vx Vy v u Q I rx ry ⟨d, ds, c.K ▸ h1, c.K ▸ h2, h3, s2, q⟩
  · obtain ⟨as, r1⟩ := Dp.reads I d Vx v (c.K ▸ h1) rx
    obtain ⟨bs, r2⟩ := Dp.reads I (.tuple ds) Vy u (c.K ▸ h2) ry
    exact PySem.SeqAt.in_tuple_reads r2 r1 (PySem.SeqAt.canLay_of_shaped s2) (PySem.SeqAt.canLay_of_shaped h3) (PyProof.Rows.room_in_shaped h3 (by omega)) ⟨.bl _, H, I, rfl, q⟩
theorem notIn_whole (c : Cal T X) {pins : List (Addr × Obj)} {σ : L2.St} {s : Shared} {ι : List Addr} {H : Hp} {h : Hip} {x y : Val} {Vx Vy : V} {v u : Value} {b : Bool} {Q : VK} (I : Inv X pins σ H s) (sim : Sim T ι h H) (rx : L2.RelV Vx v) (ry : L2.RelV Vy u)
    (ra : Rep T ι H x Vx) (rb : Rep T ι H y Vy) (e : amongOp h x y = some b) (q : Q (.bl (!b)) H) : wpAny (model X.prog X.w) X.A (compareOp .NotIn v u) (EP X pins σ Q) X.xe s := by
  obtain ⟨d, ds, h1, h2, h3, rfl⟩ := amongOp_dp sim e ra rb
  have hu := c.un
  rcases h2 with ⟨h2, s2⟩ | ⟨h2, s2⟩
  · exact op_notInD (by omega) pins s σ H Vx Vy v u Q I rx ry ⟨d, ds, c.K ▸ h1, c.K ▸ h2, h3, s2, q⟩
  · obtain ⟨as, r1⟩ := Dp.reads I d Vx v (c.K ▸ h1) rx
    obtain ⟨bs, r2⟩ := Dp.reads I (.tuple ds) Vy u (c.K ▸ h2) ry
    exact PySem.SeqAt.notIn_tuple_reads r2 r1 (PySem.SeqAt.canLay_of_shaped s2) (PySem.SeqAt.canLay_of_shaped h3) (PyProof.Rows.room_in_shaped h3 (by omega)) ⟨.bl _, H, I, rfl, q⟩
theorem inOp_cases {h : Hip} {x y : Val} {b : Bool} (e : inOp h x y = some b) : amongOp h x y = some b ∨
    (∃ i kvs, y = .ref i ∧ h[i]? = some (.dct kvs) ∧ keysOk kvs x = true ∧ b = (dget x kvs).isSome) ∨ (∃ i xs k, y = .ref i ∧ h[i]? = some (.set xs) ∧ x = .int k ∧ b = decide (k ∈ xs)) := by
  unfold inOp at e
  split at e
  · split at e
    · exact .inl e
    · rename_i kvs ek
      rw [keys_eq] at e
      split at e
      · rename_i hk
        cases e
        exact .inr (.inl ⟨_, kvs, rfl, ek, hk, rfl⟩)
      · cases e
    · rename_i xs ek
      split at e
      · cases e
        exact .inr (.inr ⟨_, xs, _, rfl, ek, rfl, rfl⟩)
      · cases e
    · cases e
  · exact .inl e
theorem c_in (c : Cal T X) : OpR X (compareOp .In) (rO2 T (cmpF .isin)) := by
  rintro pins s σ H x y v u Q I rx ry ⟨ι, h, a, b, w, h', sim, ra, rb, e, q⟩
  obtain ⟨k, ec, rfl, rfl⟩ := cmpF_ok e
  have hu := c.un
  rcases inOp_cases (show inOp h' a b = some k from ec) with e | ⟨i, kvs, rfl, ei, hk, rfl⟩ | ⟨i, xs, n, rfl, ei, rfl, rfl⟩
  · exact in_whole c I sim rx ry ra rb e (q.val sim (.bl _))
  · obtain ⟨p, H1, rfl, _, I1, sim1, ext, r⟩ := dict_at I sim ei ra rb hk
    obtain ⟨o, g, ho⟩ := dget_some r
    cases ry
    refine d_in (by omega) I1 g rx fun s' I2 => ⟨.bl _, H1, I2, rfl, ?_⟩
    have : o.isSome = (dget a kvs).isSome := by
      rcases ho with ⟨h1, h2⟩ | ⟨_, _, h1, h2, _⟩ <;> rw [h1, h2] <;> rfl
    rw [this]
    exact (q.mono ext).val sim1 (.bl _)
  · obtain ⟨p, rfl, ep⟩ := rep_ref rb
    obtain ⟨S, eS, nd, hS⟩ := orep_set (sim.at ep ei)
    refine or_sin pins s σ H x _ v u Q I rx ry ⟨n, p, S, _, rep_int ra, rfl, by rw [c.w]; exact eS, ?_⟩
    have : S n = decide (n ∈ xs) := by rw [Bool.eq_iff_iff, hS, decide_eq_true_eq]
    rw [this]
    exact q.val sim (.bl _)
theorem c_notin (c : Cal T X) : OpR X (compareOp .NotIn) (rO2 T (cmpF .notin)) := by
  rintro pins s σ H x y v u Q I rx ry ⟨ι, h, a, b, w, h', sim, ra, rb, e, q⟩
  obtain ⟨k', ec, rfl, rfl⟩ := cmpF_ok e
  obtain ⟨k, ec2, rfl⟩ := Option.map_eq_some_iff.mp (show (inOp h' a b).map (!·) = some k' from ec)
  have hu := c.un
  rcases inOp_cases ec2 with e | ⟨i, kvs, rfl, ei, hk, rfl⟩ | ⟨i, xs, n, rfl, ei, rfl, rfl⟩
  · exact notIn_whole c I sim rx ry ra rb e (q.val sim (.bl _))
  · obtain ⟨p, H1, rfl, _, I1, sim1, ext, r⟩ := dict_at I sim ei ra rb hk
    obtain ⟨o, g, ho⟩ := dget_some r
    cases ry
    refine d_notIn (by omega) I1 g rx fun s' I2 => ⟨.bl _, H1, I2, rfl, ?_⟩
    have : o.isSome = (dget a kvs).isSome := by
      rcases ho with ⟨h1, h2⟩ | ⟨_, _, h1, h2, _⟩ <;> rw [h1, h2] <;> rfl
    rw [this]
    exact (q.mono ext).val sim1 (.bl _)
  · obtain ⟨p, rfl, ep⟩ := rep_ref rb
    obtain ⟨S, eS, nd, hS⟩ := orep_set (sim.at ep ei)
    refine or_snotin pins s σ H x _ v u Q I rx ry ⟨n, p, S, _, rep_int ra, rfl, by rw [c.w]; exact eS, ?_⟩
    have : S n = decide (n ∈ xs) := by rw [Bool.eq_iff_iff, hS, decide_eq_true_eq]
    rw [this]
    exact q.val sim (.bl _)

/-! ### items -/
def ixF : F2 := fun x i h => ok? (ixOp x i h) id h
theorem nIx_at {xs : List Val} {vs : List V} {ι : List Addr} {H : Hp} {k : Int} {z : Val} (r : Reps T ι H xs vs) (e : (nIx xs.length k).bind (xs[·]?) = some z) : ∃ Z, atI vs k = some Z ∧ Rep T ι H z Z := by
  obtain ⟨j, e1, e2⟩ := Option.bind_eq_some_iff.mp e
  obtain ⟨Z, e3, rz⟩ := r.get e2
  refine ⟨Z, ?_, rz⟩
  unfold atI
  rw [← r.length]
  exact Option.bind_eq_some_iff.mpr ⟨j, e1, e3⟩
theorem i_ix (c : Cal T X) : IxR X (rO2 T ixF) := by
  rintro value slice pins s σ H x y v u Q I rx ry ⟨ι, h, a, b, w, h', sim, ra, rb, e, q⟩ hs
  unfold ixF ok? at e
  split at e
  case h_2 => cases e
  rename_i z ez
  cases e
  unfold ixOp at ez
  have hu := c.un
  split at ez
  · obtain ⟨p, vs, rfl, s1, r1⟩ := rep_tup ra
    obtain ⟨Z, e1, rz⟩ := nIx_at r1 ez
    exact ix_tup value slice pins s σ H _ y v u Q I rx ry ⟨p, vs, _, Z, rfl, rep_int rb, SqT.of s1, e1, q.val sim rz⟩ hs
  · obtain ⟨p, vs, rfl, s1, r1⟩ := rep_lv ra
    obtain ⟨Z, e1, rz⟩ := nIx_at r1 ez
    exact ix_list value slice pins s σ H _ y v u Q I rx ry ⟨p, vs, _, Z, rfl, rep_int rb, c.K ▸ s1.sq, e1, q.val sim rz⟩ hs
  · obtain ⟨p, vs, rfl, s1, r1⟩ := rep_ctp ra
    obtain ⟨Z, e1, rz⟩ := nIx_at r1 ez
    exact ix_tup value slice pins s σ H _ y v u Q I rx ry ⟨p, vs, _, Z, rfl, rep_int rb, c.K ▸ s1 H, e1, q.val sim rz⟩ hs
  · split at ez
    · rename_i ei
      obtain ⟨p, vs, rfl, _, s1, r1⟩ := sim_lst sim ra ei
      obtain ⟨Z, e1, rz⟩ := nIx_at r1 ez
      exact ix_list value slice pins s σ H _ y v u Q I rx ry ⟨p, vs, _, Z, rfl, rep_int rb, SqL.of s1, e1, q.val sim rz⟩ hs
    · rename_i kvs ei
      rw [keys_eq] at ez
      split at ez
      · rename_i hk
        obtain ⟨p, H1, rfl, _, I1, sim1, ext, r⟩ := dict_at I sim ei rb ra hk
        obtain ⟨o, g, ho⟩ := dget_some r
        rw [ez] at ho
        rcases ho with ⟨h1, _⟩ | ⟨v', V', h1, h2, rv⟩
        · cases h1
        · cases h1
          subst h2
          cases rx
          exact PyProof.Rows.tail_any (dict_typeIs I1 g) PySem.F.slot_dict_getitem.lookup (d_getItem (by omega) I1 g ry fun w' s3 I3 rw' => ⟨V', H1, I3, rw', (q.mono ext).val sim1 rv⟩) hs
      · cases ez
    · cases ez
  · cases ez

/-! ### slices -/
def rSl (T : Tb) : V → Option Int → Option Int → Hp → VK → Prop := fun x lo hi H Q => ∃ ι h a v h', Sim T ι h H ∧ Rep T ι H a x ∧ slOp a (lo.map .int) (hi.map .int) h = .ok v h' ∧ Pst T ι H v h' Q
theorem clip_ix (n d : Nat) (i : Int) : clip n i = HT.sIx n d (some i) := by
  have e := HT.clip_eq i n d
  unfold clip
  split
  · rename_i hi
    rw [if_pos hi] at e
    omega
  · rename_i hi
    rw [if_neg hi] at e
    have : ((min i.toNat n : Nat) : Int) = min i (n : Int) := by omega
    omega
theorem cut_rep {ι : List Addr} {H : Hp} {xs : List Val} {vs : List V} (r : Reps T ι H xs vs) (lo hi : Option Int) : Reps T ι H (cut xs lo hi) (cutV vs lo hi) := by
  have e1 : cutLo xs.length lo = HT.sIx vs.length 0 lo := by
    cases lo with
    | none => rfl
    | some i => rw [← r.length]; exact clip_ix _ _ i
  have e2 : cutHi xs.length hi = HT.sIx vs.length vs.length hi := by
    cases hi with
    | none => exact r.length
    | some i => rw [← r.length]; exact clip_ix _ _ i
  unfold cut cutV
  rw [e1, e2]
  exact (r.drop _).take _
theorem cut_whole (xs : List Val) (lo hi : Option Int) (h : cutLo xs.length lo = 0 ∧ cutHi xs.length hi = xs.length) : cut xs lo hi = xs := by
  unfold cut
  rw [h.1, h.2]
  simp
theorem partI_map (o : Option Int) : partI (o.map .int) = some o := by cases o <;> rfl
theorem s_sl (c : Cal T X) : SlR X (rSl T) := by
  rintro pins s σ H x v vl vu lo hi sl Q I rx hs pl pu ⟨ι, h, a, w, h', sim, ra, e, q⟩
  unfold slOp at e
  rw [partI_map, partI_map] at e
  simp only at e
  split at e
  · cases e
    rename_i xs
    obtain ⟨p, vs, rfl, s1, r1⟩ := rep_tup ra
    refine sl_tupA pins s σ H _ v vl vu lo hi sl Q I rx hs pl pu ⟨p, vs, rfl, SqT.of s1, fun hw => ?_, fun _ l hl => q.tup sim (cut_rep r1 lo hi) hl⟩
    have e1 : cutLo xs.length lo = HT.sIx vs.length 0 lo := by
      cases lo with
      | none => rfl
      | some i => rw [← r1.length]; exact clip_ix _ _ i
    have e2 : cutHi xs.length hi = HT.sIx vs.length vs.length hi := by
      cases hi with
      | none => exact r1.length
      | some i => rw [← r1.length]; exact clip_ix _ _ i
    rw [cut_whole xs lo hi ⟨e1.trans hw.1, e2.trans (hw.2.trans r1.length.symm)⟩] at q
    exact q.val sim ra
  · split at e
    · rename_i ei
      cases e
      obtain ⟨p, vs, rfl, _, s1, r1⟩ := sim_lst sim ra ei
      exact sl_list pins s σ H _ v vl vu lo hi sl Q I rx hs pl pu ⟨p, vs, rfl, SqL.of s1, fun l hl => q.lst sim (cut_rep r1 lo hi) hl⟩
    · cases e
  · cases e
end
end Z

set_option maxRecDepth 100000
/-! Z6: built-in functions and methods of lists keep their word. -/
namespace Z
open PySem (Str Value Addr Obj Shared Expr Stmt Pos Sem Tok sizeLine sizeLine_eq wpAny model binaryOp compareOp inplaceOp unaryOp call cLine)
open L2

section
variable {T : Tb} {X : Cx}

theorem reps1 {ι : List Addr} {H : Hp} {a : Val} {xs : List V} (r : Reps T ι H [a] xs) : ∃ x, xs = [x] ∧ Rep T ι H a x := by
  cases r with
  | cons r1 r2 => cases r2; exact ⟨_, rfl, r1⟩
theorem reps2 {ι : List Addr} {H : Hp} {a b : Val} {xs : List V} (r : Reps T ι H [a, b] xs) : ∃ x y, xs = [x, y] ∧ Rep T ι H a x ∧ Rep T ι H b y := by
  cases r with
  | cons r1 r2 =>
    obtain ⟨y, rfl, r3⟩ := reps1 r2
    exact ⟨_, y, rfl, r1, r3⟩
theorem ok?_ok {α β : Type} {o : Option α} {f : α → β} {h h' : Hip} {v : β} (e : ok? o f h = .ok v h') : ∃ a, o = some a ∧ v = f a ∧ h' = h := by
  unfold ok? at e
  split at e
  · cases e; exact ⟨_, rfl, rfl, rfl⟩
  · cases e
theorem ints_vals {ι : List Addr} {H : Hp} : ∀ {xs : List Val} {vs : List V} {ns : List Int}, ints? xs = some ns → Reps T ι H xs vs → vs = ns.map V.int
  | [], _, ns, e, r => by cases e; cases r; rfl
  | x :: xs, _, ns, e, r => by
    cases x <;> first | (cases e; done) | skip
    rename_i i
    obtain ⟨ms, e1, rfl⟩ := Option.map_eq_some_iff.mp (show (ints? xs).map (i :: ·) = some ns from e)
    cases r with
    | cons r1 r2 =>
      rw [rep_int r1, ints_vals e1 r2]
      rfl
theorem bls_vals {ι : List Addr} {H : Hp} : ∀ {xs : List Val} {vs : List V} {ns : List Bool}, bls? xs = some ns → Reps T ι H xs vs → vs = ns.map V.bl
  | [], _, ns, e, r => by cases e; cases r; rfl
  | x :: xs, _, ns, e, r => by
    cases x <;> first | (cases e; done) | skip
    rename_i i
    obtain ⟨ms, e1, rfl⟩ := Option.map_eq_some_iff.mp (show (bls? xs).map (i :: ·) = some ns from e)
    cases r with
    | cons r1 r2 =>
      rw [rep_bl r1, bls_vals e1 r2]
      rfl
theorem reps_ints {ι : List Addr} {H : Hp} : ∀ ns : List Int, Reps T ι H (ns.map .int) (ns.map V.int)
  | [] => .nil
  | n :: ns => .cons (.int n) (reps_ints ns)

/-! ### sorting -/
theorem insI_perm (x : Int) : ∀ l : List Int, (insI x l).Perm (x :: l)
  | [] => List.Perm.refl _
  | y :: r => by
    unfold insI
    split
    · exact List.Perm.refl _
    · exact ((insI_perm x r).cons y).trans (List.Perm.swap x y r)
theorem sortI_perm : ∀ l : List Int, (sortI l).Perm l
  | [] => List.Perm.refl _
  | x :: r => (insI_perm x (sortI r)).trans ((sortI_perm r).cons x)
theorem insI_sorted (x : Int) : ∀ l : List Int, l.Pairwise (· ≤ ·) → (insI x l).Pairwise (· ≤ ·)
  | [], _ => by simp [insI]
  | y :: r, h => by
    have h := List.pairwise_cons.mp h
    unfold insI
    split
    · rename_i hx
      refine List.pairwise_cons.mpr ⟨fun z hz => ?_, List.pairwise_cons.mpr h⟩
      rcases List.mem_cons.mp hz with rfl | hz
      · exact hx
      · exact Int.le_trans hx (h.1 z hz)
    · rename_i hx
      refine List.pairwise_cons.mpr ⟨fun z hz => ?_, insI_sorted x r h.2⟩
      rcases List.mem_cons.mp ((insI_perm x r).mem_iff.mp hz) with rfl | hz
      · omega
      · exact h.1 z hz
theorem sortI_sorted : ∀ l : List Int, (sortI l).Pairwise (· ≤ ·)
  | [] => .nil
  | x :: r => insI_sorted x _ (sortI_sorted r)
theorem sorted_one : ∀ {a b : List Int}, a.Perm b → a.Pairwise (· ≤ ·) → b.Pairwise (· ≤ ·) → a = b := fun p ha hb =>
  List.Perm.eq_of_pairwise (fun x y _ _ h1 h2 => Int.le_antisymm h1 h2) ha hb p

/-! ### calls -/
theorem f_len (c : Cal T X) : CallR X (.builtin "len") (rON T fLen) := by
  rintro pins s σ H xs us Q I rs ⟨ι, h, as, v, h', sim, ra, e, q⟩
  unfold fLen at e
  split at e
  case h_2 => cases e
  rename_i x h
  obtain ⟨n, en, rfl, rfl⟩ := ok?_ok e
  obtain ⟨Vx, rfl, r1⟩ := reps1 ra
  unfold lenOp at en
  split at en
  · cases en
    obtain ⟨p, vs, rfl, s1, r2⟩ := rep_tup r1
    refine call_len_seq pins s σ H _ us Q I rs ⟨p, vs, rfl, .inr (SqT.of s1), ?_⟩
    rw [← r2.length]; exact q.val sim (.int _)
  · cases en
    obtain ⟨p, vs, rfl, s1, r2⟩ := rep_lv r1
    refine call_len_seq pins s σ H _ us Q I rs ⟨p, vs, rfl, .inl (c.K ▸ s1.sq), ?_⟩
    rw [← r2.length]; exact q.val sim (.int _)
  · cases en
    obtain ⟨p, vs, rfl, s1, r2⟩ := rep_ctp r1
    refine call_len_seq pins s σ H _ us Q I rs ⟨p, vs, rfl, .inr (c.K ▸ s1 H), ?_⟩
    rw [← r2.length]; exact q.val sim (.int _)
  · split at en
    · rename_i hf
      cases en
      have hl := SZ_le hf
      exact call_len_str pins s σ H _ us Q I rs ⟨_, by rw [rep_str r1], by omega, q.val sim (.int _)⟩
    · cases en
  · split at en
    · rename_i ei
      cases en
      obtain ⟨p, vs, rfl, _, s1, r2⟩ := sim_lst sim r1 ei
      refine call_len_seq pins s σ H _ us Q I rs ⟨p, vs, rfl, .inl (SqL.of s1), ?_⟩
      rw [← r2.length]; exact q.val sim (.int _)
    · rename_i kvs ei
      cases en
      obtain ⟨p, rfl, ep⟩ := rep_ref r1
      have lenK : ∀ {κ : Type} {g : Val → Option κ} {kvs : List (Val × Val)} {ks : List (κ × V)}, RepK g T ι H kvs ks → kvs.length = ks.length := fun r => by
        induction r with
        | nil => rfl
        | cons _ _ _ ih => simp [ih]
      rcases orep_dct (sim.at ep ei) with ⟨ks, eH, r⟩ | ⟨ks, eH, r⟩
      · refine call_lenD pins s σ H _ us Q I rs ⟨p, ks, rfl, eH, ?_⟩
        rw [← lenK r]; exact q.val sim (.int _)
      · refine call_len_dT pins s σ H _ us Q I rs ⟨p, ks, rfl, eH, ?_⟩
        rw [← lenK r]; exact q.val sim (.int _)
    · rename_i ms ei
      split at en
      · rename_i hlt
        cases en
        obtain ⟨p, rfl, ep⟩ := rep_ref r1
        obtain ⟨S, eS, nd, hS⟩ := orep_set (sim.at ep ei)
        obtain ⟨u, rfl, ru⟩ := L2.vals1 rs
        have R : SetR X.w s.heap p S ms.length := setO_get I (by rw [c.w]; exact eS)
        obtain ⟨o, es, ep2, t, ho, hex, hd, _, _, _, _, hf, hn, _⟩ := R
        obtain rfl : u = Value.ref p := ru
        exact PySem.call_len_set ho hex hd hf (by rw [hn]; omega) ⟨.int ms.length, H, I.tok _, ⟨_, by rw [hn]⟩, q.val sim (.int _)⟩
      · cases en
    · cases en
  · cases en
theorem f_max2 (c : Cal T X) : CallR X (.builtin "max") (rON T fMax2) := by
  rintro pins s σ H xs us Q I rs ⟨ι, h, as, v, h', sim, ra, e, q⟩
  unfold fMax2 at e
  split at e
  case h_2 => cases e
  cases e
  obtain ⟨V1, V2, rfl, r1, r2⟩ := reps2 ra
  exact call_max2 c.calm pins s σ H _ us Q I rs ⟨_, _, by rw [rep_int r1, rep_int r2], q.val sim (.int _)⟩
theorem f_min2 (c : Cal T X) : CallR X (.builtin "min") (rON T fMin2) := by
  rintro pins s σ H xs us Q I rs ⟨ι, h, as, v, h', sim, ra, e, q⟩
  unfold fMin2 at e
  split at e
  case h_2 => cases e
  cases e
  obtain ⟨V1, V2, rfl, r1, r2⟩ := reps2 ra
  exact call_min2 c.calm pins s σ H _ us Q I rs ⟨_, _, by rw [rep_int r1, rep_int r2], q.val sim (.int _)⟩
theorem f_abs : CallR X (.builtin "abs") (rON T fAbs) := by
  rintro pins s σ H xs us Q I rs ⟨ι, h, as, v, h', sim, ra, e, q⟩
  unfold fAbs at e
  split at e
  case h_2 => cases e
  cases e
  obtain ⟨V1, rfl, r1⟩ := reps1 ra
  exact call_abs pins s σ H _ us Q I rs ⟨_, by rw [rep_int r1], q.val sim (.int _)⟩
theorem ints_dats : ∀ {xs : List Val} {ns : List Int}, ints? xs = some ns → dats xs = ns.map PySem.PyData.int
  | [], _, e => by cases e; rw [dats_nil]; rfl
  | x :: xs, ns, e => by
    cases x <;> first | (cases e; done) | skip
    rename_i i
    obtain ⟨ms, e1, rfl⟩ := Option.map_eq_some_iff.mp (show (ints? xs).map (i :: ·) = some ns from e)
    rw [dats_cons, ints_dats e1]
    simp only [dat, List.map_cons]
theorem ints_alike (ns : List Int) : PySem.W.AlikeAll (ns.map PySem.PyData.int) := by
  refine ⟨fun x hx y hy => ?_, fun x hx e => ?_⟩
  · obtain ⟨i, _, rfl⟩ := List.mem_map.mp hx
    obtain ⟨j, _, rfl⟩ := List.mem_map.mp hy
    rfl
  · obtain ⟨i, _, rfl⟩ := List.mem_map.mp hx
    cases e
theorem ints_depth : ∀ ns : List Int, PySem.PyData.depthAll (ns.map PySem.PyData.int) = 0
  | [] => by rw [List.map_nil, PySem.PyData.depthAll]
  | n :: ns => by rw [List.map_cons, PySem.PyData.depthAll, ints_depth ns, PySem.PyData.depth]; rfl
theorem f_max1 (c : Cal T X) : CallR X (.builtin "max") (rON T fMax1) := by
  rintro pins s σ H xs us Q I rs ⟨ι, h, as, v, h', sim, ra, e, q⟩
  have hu := c.un
  unfold fMax1 at e
  split at e
  case h_2 => cases e
  rename_i x h
  obtain ⟨V1, rfl, r1⟩ := reps1 ra
  split at e
  case h_2 => cases e
  rename_i d ed
  split at e
  case h_2 => cases e
  rename_i ds ei
  split at e
  case h_2 => cases e
  rename_i n ns en
  split at e
  case isFalse => cases e
  cases e
  have dp := deep_dp sim ed r1
  have ein := ints_dats en
  rw [List.map_cons] at ein
  have al := ints_alike (n :: ns)
  have dz := ints_depth (n :: ns)
  rw [List.map_cons] at al dz
  obtain ⟨u, rfl, ru⟩ := L2.vals1 rs
  have fin : ∀ (v : Value) (h' : PySem.Heap) (tk : Tok) (bs : List Addr), PySem.Reads h' v (PySem.W.maxD (.int n) (ns.map .int)) bs → (∀ b o, s.heap.get? b = some o → h'.get? b = some o) → EP X pins σ Q v { s with heap := h', toks := tk } := fun v h' tk bs r hk => by
    rw [PySem.W.maxD_ints] at r
    cases r
    exact ⟨.int _, H, I.kept hk, ⟨_, rfl⟩, q.val sim (.int _)⟩
  unfold items? at ei
  split at ei
  · cases ei
    simp only [dat] at dp
    rw [ein] at dp
    obtain ⟨as, rd⟩ := Dp.reads I (.tuple (.int n :: ns.map .int)) V1 u (c.K ▸ dp) ru
    cases rd with
    | tuple e1 e2 e3 e4 => exact PySem.W.max_tuple_data (I.ok.hd c.calm) ⟨_, e1, e2, _, e3⟩ e4 al (by rw [dz]; omega) fun i v h' tk bs hv r hk => fin v h' tk bs r hk
  · cases ei
    simp only [dat] at dp
    rw [ein] at dp
    obtain ⟨as, rd⟩ := Dp.reads I (.list (.int n :: ns.map .int)) V1 u (c.K ▸ dp) ru
    cases rd with
    | list e1 e2 e3 e4 => exact PySem.W.max_list_data (I.ok.hd c.calm) ⟨_, e1, e2, _, e3⟩ e4 al (by rw [dz]; omega) fun i v h' tk bs hv r hk => fin v h' tk bs r hk
  · cases ei
theorem f_divmod : CallR X (.builtin "divmod") (rON T fDivmod) := by
  rintro pins s σ H xs us Q I rs ⟨ι, h, as, v, h', sim, ra, e, q⟩
  unfold fDivmod at e
  split at e
  case h_2 => cases e
  split at e
  · rename_i hc
    cases e
    rw [Bool.and_eq_true] at hc
    obtain ⟨V1, V2, rfl, r1, r2⟩ := reps2 ra
    exact call_divmod pins s σ H _ us Q I rs ⟨_, _, by rw [rep_int r1, rep_int r2], ⟨of_decide_eq_true hc.1, of_decide_eq_true hc.2⟩, fun p hp => q.tup sim (.cons (.int _) (.cons (.int _) .nil)) hp⟩
  · cases e
theorem f_int1 : CallR X (.type "int") (rON T fInt1) := by
  rintro pins s σ H xs us Q I rs ⟨ι, h, as, v, h', sim, ra, e, q⟩
  unfold fInt1 at e
  split at e
  case h_3 => cases e
  · cases e
    obtain ⟨V1, rfl, r1⟩ := reps1 ra
    exact call_int1 pins s σ H _ us Q I rs (.inl ⟨_, by rw [rep_int r1], q.val sim (.int _)⟩)
  · cases e
    obtain ⟨V1, rfl, r1⟩ := reps1 ra
    exact call_int1 pins s σ H _ us Q I rs (.inr ⟨_, by rw [rep_bl r1], q.val sim (.int _)⟩)
/-- the items of a list or a tuple -/
theorem seqOf_rep (hK : X.K = T.K) {ι : List Addr} {H : Hp} {h : Hip} (sim : Sim T ι h H) {x : Val} {xs : List Val} {Vx : V} (e : seqOf h x = some xs) (r : Rep T ι H x Vx) :
    ∃ p vs, Vx = .ref p ∧ Reps T ι H xs vs ∧ ((SqL X.K H p vs ∧ ((∃ a, x = .ref a) ∨ x = .lv xs)) ∨ (SqT X.K H p vs ∧ (x = .tup xs ∨ x = .ctp xs))) := by
  unfold seqOf at e
  split at e
  · cases e; obtain ⟨p, vs, rfl, s1, r2⟩ := rep_tup r; exact ⟨p, vs, rfl, r2, .inr ⟨SqT.of s1, .inl rfl⟩⟩
  · cases e; obtain ⟨p, vs, rfl, s1, r2⟩ := rep_lv r; exact ⟨p, vs, rfl, r2, .inl ⟨hK ▸ s1.sq, .inr rfl⟩⟩
  · cases e; obtain ⟨p, vs, rfl, s1, r2⟩ := rep_ctp r; exact ⟨p, vs, rfl, r2, .inr ⟨hK ▸ s1 H, .inr rfl⟩⟩
  · split at e
    · rename_i ei
      cases e; obtain ⟨p, vs, rfl, _, s1, r2⟩ := sim_lst sim r ei; exact ⟨p, vs, rfl, r2, .inl ⟨SqL.of s1, .inl ⟨_, rfl⟩⟩⟩
    · cases e
  · cases e
theorem f_tuple (c : Cal T X) : CallR X (.type "tuple") (rON T fTuple) := by
  rintro pins s σ H xs us Q I rs ⟨ι, h, as, v, h', sim, ra, e, q⟩
  unfold fTuple at e
  split at e
  case h_3 => cases e
  · cases e
    obtain ⟨V1, rfl, r1⟩ := reps1 ra
    obtain ⟨p, vs, rfl, s1, r2⟩ := rep_ctp r1
    exact call_tuple_of pins s σ H _ us Q I rs ⟨p, vs, rfl, .inr ⟨c.K ▸ s1 H, q.val sim r1⟩⟩
  · rename_i x h hne
    obtain ⟨ys, ey, rfl, rfl⟩ := ok?_ok e
    obtain ⟨V1, rfl, r1⟩ := reps1 ra
    obtain ⟨p, vs, rfl, r2, s1⟩ := seqOf_rep c.K sim ey r1
    rcases s1 with ⟨s1, _⟩ | ⟨s1, rfl | rfl⟩
    · exact call_tuple_of pins s σ H _ us Q I rs ⟨p, vs, rfl, .inl ⟨s1, fun l hl => q.tup sim r2 hl⟩⟩
    · exact call_tuple_of pins s σ H _ us Q I rs ⟨p, vs, rfl, .inr ⟨s1, q.val sim r1⟩⟩
    · exact absurd rfl (hne _)
theorem f_list (c : Cal T X) : CallR X (.type "list") (rON T fList) := by
  rintro pins s σ H xs us Q I rs ⟨ι, h, as, v, h', sim, ra, e, q⟩
  unfold fList at e
  split at e
  case h_2 => cases e
  split at e
  · rename_i ey
    cases e
    obtain ⟨V1, rfl, r1⟩ := reps1 ra
    obtain ⟨p, vs, rfl, r2, s1⟩ := seqOf_rep c.K sim ey r1
    have s2 : SqL X.K H p vs ∨ SqT X.K H p vs := by
      rcases s1 with ⟨s1, _⟩ | ⟨s1, _⟩
      · exact .inl s1
      · exact .inr s1
    exact call_list_of pins s σ H _ us Q I rs ⟨p, vs, rfl, s2, fun l hl => q.lst sim r2 hl⟩
  · cases e
/-! sorted of a tuple of ints -/
section
open PySem PySem.Calls PyProof.Rows PySem.W
variable {prog : PySem.Program} {w : PySem.World} {A : PySem.Around} {E : Value → Shared → Prop} {s : Shared}
theorem collect_tup {l : Addr} {us : List Value} {R : List Value → Shared → Prop} (hT : s.heap.IsTuple l us.toArray) (hn : us.length ≤ sizeLine)
    (k : R us { s with heap := (s.heap.push (seqObj "list" #[] 0)).update s.heap.objs.size (Obj.mapSeq (· ++ us.toArray)) }) : wpAny (model prog w) A (collect (.ref l)) R E s := by
  obtain ⟨o, g1, g2, n, g3⟩ := id hT
  unfold collect
  refine wpAny_bind (m := runValue _) (wpAny_runValue (codeAny_builtin entry_proto_collect' ?_))
  show wpAny (model prog w) _ (do again (.builtin "list.__iadd__" ⟨[← newList [], .ref l], []⟩)) _ E s
  refine wpAny_bind (m := newList []) (wpAny_newList (wpAny_pure ⟨Code.quiet_builtin _ (by decide +kernel), codeAny_builtin entry_list_iadd' ?_⟩))
  show wpAny (model prog w) _ (Builtin.List.listExtendWith (.ref s.heap.objs.size) (.ref l) (.ref s.heap.objs.size)) _ E { s with heap := s.heap.push (seqObj "list" #[] 0) }
  unfold Builtin.List.listExtendWith
  have g4 : (s.heap.push (seqObj "list" #[] 0)).get? l = some o := Heap.get?_push_of_some _ g1
  refine wpAny_bind (m := PySem.typeOf _) (wpAny_typeOf (T := "tuple") ⟨o, g4, g2⟩ ?_)
  have tt : (Value.type "tuple" == Value.type "tuple") = true := rfl
  rw [if_pos (by rw [tt, Bool.or_true])]
  refine wpAny_bind (listItems_at (o := o) g4 g3 (wpAny_bind (listItems_at (xs := #[]) (n := 0) (Heap.get?_push_size _ rfl) rfl ?_)))
  rw [if_neg (by simp)]
  refine wpAny_bind (listUpdate_at (n := 0) (xs := #[]) (Heap.get?_push_size _ rfl) rfl ?_ (Nat.zero_le _) (by simp only [Array.size_append, List.size_toArray, List.length_nil]; omega))
  refine wpAny_pure (show wpAny (model prog w) A (do
      let o ← load s.heap.objs.size
      match o.data with
      | .seq xs _ => pure xs.toList
      | _ => unsupported "internal:collect") R E _ from ?_)
  refine wpAny_bind (m := load _) (wpAny_load (get?_update_seq (Heap.get?_push_size _ rfl) _) ?_)
  have e : ((#[] : Array Value) ++ us.toArray).toList = us := by simp
  show wpAny (model prog w) A (pure ((#[] : Array Value) ++ us.toArray).toList) R E _
  rw [e]
  exact wpAny_pure k
theorem sorted_tup {l : Addr} {us : List Value} {ltv : Value → Value → Bool} {R : Value → Shared → Prop} (O : SrtO.Swo ltv) (hT : s.heap.IsTuple l us.toArray) (hn : us.length ≤ sizeLine)
    (hS : 2 ≤ us.length → ∀ (h₁ : PySem.Heap) (a : Addr), h₁.get? a = some (seqObj "list" us.toArray 0) → (∀ b o, s.heap.get? b = some o → b ≠ a ∧ h₁.get? b = some o) → SrtO.SortableO prog w A.in1.in1 { s with heap := h₁ } a us ltv)
    (k : ∀ out : List Value, SrtO.Srtd ltv out → SrtO.Stb ltv out us → R (.ref (s.heap.objs.size + 1)) { s with heap := sortedAll s.heap us out.toArray }) : wpAny (model prog w) A (call (.builtin "sorted") [.ref l]) R E s := by
  refine Calls.call_function_entry kind_sorted plain_sorted entry_sorted (args_sorted1 _) ?_
  unfold Builtin.«sorted»
  refine wpAny_bind (m := checkCount "sorted" 1 1 _) (wpAny_pure (wpAny_bind (collect_tup hT hn (wpAny_bind (wpAny_newList ?_ hn)))))
  have z : ((s.heap.push (seqObj "list" #[] 0)).update s.heap.objs.size (Obj.mapSeq (· ++ us.toArray))).objs.size = s.heap.objs.size + 1 := by rw [Heap.size_update, size_push']
  have at1 : (((s.heap.push (seqObj "list" #[] 0)).update s.heap.objs.size (Obj.mapSeq (· ++ us.toArray))).push (seqObj "list" us.toArray 0)).get? (s.heap.objs.size + 1) = some (seqObj "list" us.toArray 0) := by
    rw [← z]; exact Heap.get?_push_size _ rfl
  have old : ∀ b o, s.heap.get? b = some o → b ≠ s.heap.objs.size + 1 ∧ (((s.heap.push (seqObj "list" #[] 0)).update s.heap.objs.size (Obj.mapSeq (· ++ us.toArray))).push (seqObj "list" us.toArray 0)).get? b = some o := fun b o q => by
    have lt : b < s.heap.objs.size := Heap.lt_size q
    refine ⟨Nat.ne_of_lt (Nat.lt_succ_of_lt lt), Heap.get?_push_of_some _ ?_⟩
    rw [Heap.get?_update_ne _ _ _ _ (Nat.ne_of_lt lt)]
    exact Heap.get?_push_of_some _ q
  show wpAny (model prog w) _ _ _ E { s with heap := ((s.heap.push (seqObj "list" #[] 0)).update s.heap.objs.size (Obj.mapSeq (· ++ us.toArray))).push (seqObj "list" us.toArray 0) }
  rw [z]
  exact wpAny_bind (wpAny_holding (wpAny_call_entry slot_list_sort ⟨_, at1, rfl⟩ entry_list_sort (SrtO.list_sort_ord O at1 hn (fun h2 => hS h2 _ _ at1 old) fun out hs hb => ⟨_, rfl, wpAny_pure ⟨_, rfl, k out hs hb⟩⟩) (args_list_sort _)))
end
def rSortedIT (K : PySem.W.Frag) : List V → Hp → VK → Prop := fun vs H Q => ∃ (a : Addr) (ns : List Int), vs = [V.ref a] ∧ SqT K H a (ns.map V.int) ∧
  ∀ (ns' : List Int) (p : Addr), ns'.Perm ns → ns'.Pairwise (· ≤ ·) → H p = none → Q (.ref p) (upd H p (.lst (ns'.map V.int)))
theorem cr_sortedIT : CallR X (.builtin "sorted") (rSortedIT X.K) := by
  intro pins s σ H vs us Q I r h
  obtain ⟨a, ns, rfl, hs, q⟩ := h
  obtain ⟨its, rv, hl, hz⟩ := I.tuple hs
  rw [Vals.ref1 r]
  have hi := rv.ints
  refine sorted_tup SrtO.swo_int hl (by rw [← rv.length]; exact hz) (fun h2 h₁ a' _ _ => SrtO.ints_sortable hi h2) fun out h1 h2 => ?_
  obtain ⟨k1, k2, k3⟩ := SrtO.ints_out hi h1 h2
  obtain ⟨ep, he'⟩ := PyProof.Rows.sortedAll_at s.heap its out.toArray
  have ln : ((out.map SrtO.iv).map V.int).length ≤ sizeLine := by
    rw [List.length_map] at hz ⊢
    rw [k2.length_eq]; exact hz
  exact ⟨.ref _, upd H (s.heap.objs.size + 1) (.lst ((out.map SrtO.iv).map V.int)), I.laid (t' := s.toks) (fun _ _ => PyProof.Rows.sortedAll_old) (Nat.le_succ _) ⟨ln, out, ep, vals_of_ints k1, he'⟩, rfl, q _ _ k2 k3 (I.hok.fresh (Nat.le_succ _))⟩
theorem f_sorted (c : Cal T X) : CallR X (.builtin "sorted") (rON T fSorted) := by
  rintro pins s σ H xs us Q I rs ⟨ι, h, as, v, h', sim, ra, e, q⟩
  unfold fSorted at e
  split at e
  case h_2 => cases e
  split at e
  · rename_i ns ey
    cases e
    obtain ⟨V1, rfl, r1⟩ := reps1 ra
    unfold intsIn at ey
    split at ey
    · obtain ⟨p, vs, rfl, s1, r2⟩ := rep_lv r1
      have := ints_vals ey r2
      subst this
      refine cr_sortedI pins s σ H _ us Q I rs ⟨p, ns, rfl, c.K ▸ s1.sq, fun ns' l hp hs hl => ?_⟩
      rw [sorted_one (hp.trans (sortI_perm ns).symm) hs (sortI_sorted ns)]
      exact q.lst sim (reps_ints _) hl
    · obtain ⟨p, vs, rfl, s1, r2⟩ := rep_tup r1
      have := ints_vals ey r2
      subst this
      refine cr_sortedIT pins s σ H _ us Q I rs ⟨p, ns, rfl, SqT.of s1, fun ns' l hp hs hl => ?_⟩
      rw [sorted_one (hp.trans (sortI_perm ns).symm) hs (sortI_sorted ns)]
      exact q.lst sim (reps_ints _) hl
    · split at ey
      · rename_i ei
        obtain ⟨p, vs, rfl, _, s1, r2⟩ := sim_lst sim r1 ei
        have := ints_vals ey r2
        subst this
        refine cr_sortedI pins s σ H _ us Q I rs ⟨p, ns, rfl, SqL.of s1, fun ns' l hp hs hl => ?_⟩
        rw [sorted_one (hp.trans (sortI_perm ns).symm) hs (sortI_sorted ns)]
        exact q.lst sim (reps_ints _) hl
      · rename_i ms ei
        split at ey
        · rename_i hlt
          cases ey
          obtain ⟨p, rfl, ep⟩ := rep_ref r1
          obtain ⟨S, eS, nd, hS⟩ := orep_set (sim.at ep ei)
          refine cr_sortedSet c.calm pins s σ H _ us Q I rs ⟨p, S, _, rfl, by rw [c.w]; exact eS, hlt, fun ns' l hs hm _ hl => ?_⟩
          have hp : ns'.Perm ns := by
            refine (List.perm_ext_iff_of_nodup (hs.imp fun h => Int.ne_of_lt h) nd).mpr fun k => ?_
            rw [hm, hS]
          rw [sorted_one (hp.trans (sortI_perm ns).symm) (hs.imp fun h => Int.le_of_lt h) (sortI_sorted ns)]
          exact q.lst sim (reps_ints _) hl
        · cases ey
      · cases ey
    · cases ey
  · cases e
theorem lstAt_rep {ι : List Addr} {H : Hp} {h : Hip} (sim : Sim T ι h H) {x : Val} {xs : List Val} {Vx : V} (e : lstAt h x = some xs) (r : Rep T ι H x Vx) : ∃ i p vs, x = .ref i ∧ ι[i]? = some p ∧ h[i]? = some (.lst xs) ∧ Vx = .ref p ∧ H p = some (.lst vs) ∧ Reps T ι H xs vs := by
  unfold lstAt at e
  split at e
  · split at e
    · rename_i ei
      cases e
      obtain ⟨p, vs, rfl, ep, s1, r2⟩ := sim_lst sim r ei
      exact ⟨_, p, vs, rfl, ep, ei, rfl, s1, r2⟩
    · cases e
  · cases e
theorem f_sum (c : Cal T X) : CallR X (.builtin "sum") (rON T fSum) := by
  rintro pins s σ H xs us Q I rs ⟨ι, h, as, v, h', sim, ra, e, q⟩
  unfold fSum at e
  split at e
  case h_2 => cases e
  obtain ⟨ns, en, rfl, rfl⟩ := ok?_ok e
  obtain ⟨ys, ey, en2⟩ := Option.bind_eq_some_iff.mp en
  obtain ⟨V1, rfl, r1⟩ := reps1 ra
  obtain ⟨i, p, vs, rfl, _, _, rfl, s1, r2⟩ := lstAt_rep sim ey r1
  have := ints_vals en2 r2
  subst this
  exact cr_sum c.calm pins s σ H _ us Q I rs ⟨p, ns, rfl, SqL.of s1, q.val sim (.int _)⟩
theorem f_all (c : Cal T X) : CallR X (.builtin "all") (rON T fAll) := by
  rintro pins s σ H xs us Q I rs ⟨ι, h, as, v, h', sim, ra, e, q⟩
  unfold fAll at e
  split at e
  case h_2 => cases e
  obtain ⟨ns, en, rfl, rfl⟩ := ok?_ok e
  obtain ⟨ys, ey, en2⟩ := Option.bind_eq_some_iff.mp en
  obtain ⟨V1, rfl, r1⟩ := reps1 ra
  obtain ⟨i, p, vs, rfl, _, _, rfl, s1, r2⟩ := lstAt_rep sim ey r1
  have := bls_vals en2 r2
  subst this
  exact cr_all c.calm pins s σ H _ us Q I rs ⟨p, ns, rfl, SqL.of s1, q.val sim (.bl _)⟩
theorem f_any (c : Cal T X) : CallR X (.builtin "any") (rON T fAny) := by
  rintro pins s σ H xs us Q I rs ⟨ι, h, as, v, h', sim, ra, e, q⟩
  unfold fAny at e
  split at e
  case h_2 => cases e
  obtain ⟨ns, en, rfl, rfl⟩ := ok?_ok e
  obtain ⟨ys, ey, en2⟩ := Option.bind_eq_some_iff.mp en
  obtain ⟨V1, rfl, r1⟩ := reps1 ra
  obtain ⟨i, p, vs, rfl, _, _, rfl, s1, r2⟩ := lstAt_rep sim ey r1
  have := bls_vals en2 r2
  subst this
  exact cr_any c.calm pins s σ H _ us Q I rs ⟨p, ns, rfl, SqL.of s1, q.val sim (.bl _)⟩
/-- repr of what is told wholly -/
theorem f_repr (c : Cal T X) : CallR X (.builtin "repr") (rON T fRepr) := by
  rintro pins s σ H xs us Q I rs ⟨ι, h, as, v, h', sim, ra, e, q⟩
  unfold fRepr at e
  split at e
  case h_2 => cases e
  obtain ⟨z, en, rfl, rfl⟩ := ok?_ok e
  obtain ⟨V1, rfl, r1⟩ := reps1 ra
  obtain ⟨u, rfl, ru⟩ := vals1 rs
  unfold reprOp at en
  split at en
  · rename_i d ed
    split at en
    · rename_i hs
      rw [Bool.and_eq_true, Bool.and_eq_true] at hs
      cases en
      have hd := deep_dp sim ed r1
      obtain ⟨as', rr⟩ := Dp.reads I (dat d) V1 u (c.K ▸ hd) ru
      have hsh : PySem.SeqAt.shaped (dat d) = true := hs.1.2
      have hz := SZ_le hs.2
      have hdep := PySem.SeqAt.depth_of_shaped hsh
      have hnd := PySem.PyData.hasDict_of_canLay _ (PySem.SeqAt.canLay_of_shaped hsh)
      have hu := c.un
      have fin : ∀ (h2 : PySem.Heap) (t : Tok) (tk : Nat), (∀ b o, s.heap.get? b = some o → h2.get? b = some o) → EP X pins σ Q (.str (dat d).shown t) { s with heap := h2, toks := tk } := fun h2 t tk k =>
        ⟨.str _, H, I.kept k, ⟨_, rfl⟩, q.val sim (.str _)⟩
      cases V1 with
      | ref a =>
        cases ru
        exact PySem.repr_of_reads' rr hs.1.1 (fun z => by rw [hnd] at z; cases z) c.gd (by omega) (fun _ _ z => z) (fun h2 t tk k => fin h2 t tk k) (by omega)
      | non =>
        cases ru
        cases hd' : dat d <;> rw [hd'] at hd <;> cases hd
        rw [hd'] at fin
        exact PySem.P.repr_of_none (fin s.heap _ _ fun _ _ z => z)
      | bl b =>
        cases ru
        cases hd' : dat d <;> rw [hd'] at hd <;> cases hd
        rw [hd'] at fin
        exact PySem.P.repr_of_bool (fin s.heap _ _ fun _ _ z => z)
      | int i =>
        obtain ⟨t, rfl⟩ := ru
        cases hd' : dat d <;> rw [hd'] at hd <;> cases hd
        rw [hd'] at fin hs
        exact PySem.P.repr_of_int (of_decide_eq_true hs.1.1) (fin s.heap _ _ fun _ _ z => z)
      | str i =>
        obtain ⟨t, rfl⟩ := ru
        cases hd' : dat d <;> rw [hd'] at hd <;> cases hd
        rw [hd'] at fin hz
        exact PySem.P.repr_of_str (fin s.heap _ _ fun _ _ z => z) (Nat.le_of_lt hz)
      | byt _ => cases hd' : dat d <;> rw [hd'] at hd <;> cases hd
      | flt _ => cases hd' : dat d <;> rw [hd'] at hd <;> cases hd
      | ty _ => cases hd' : dat d <;> rw [hd'] at hd <;> cases hd
    · cases en
  · cases en

theorem tyOf_x (hK : X.K = T.K) {ι : List Addr} {H : Hp} {h : Hip} (sim : Sim T ι h H) {x : Val} {n : String} {Vx : V} (e : tyOf h x = some n) (r : Rep T ι H x Vx) : TyX X.K H Vx (.type n) := by
  unfold tyOf at e
  split at e
  · cases e; cases r; exact .base .non
  · cases e; cases r; exact .base (.bl _)
  · cases e; cases r; exact .base (.int _)
  · cases e; cases r; exact .base (.str _)
  · cases e; obtain ⟨p, vs, rfl, s1, _⟩ := rep_tup r; exact .base (.tup s1)
  · cases e
    obtain ⟨p, vs, rfl, s1, _⟩ := rep_ctp r
    rw [hK]
    rcases s1 (fun _ => none) with (s1 | ⟨o, s1⟩) | ⟨o, its, n, h1, h2, _⟩
    · cases s1
    · cases s1
    · exact .kTuple h1 h2
  · split at e
    · rename_i ei; cases e
      obtain ⟨p, vs, rfl, _, s1, _⟩ := sim_lst sim r ei
      exact .base (.lst s1)
    · rename_i ei; cases e
      obtain ⟨p, rfl, ep⟩ := rep_ref r
      rcases orep_dct (sim.at ep ei) with ⟨ks, eH, _⟩ | ⟨ks, eH, _⟩
      · exact .base (.dK eH)
      · exact .base (.dT eH)
    · cases e
  · cases e
theorem f_is (c : Cal T X) (t : String) (hk : ∀ s ∈ ["NoneType", "bool", "int", "str", "tuple", "list", "dict"], kitB s t = some (decide (s = t) || (decide (s = "bool") && decide (t = "int")))) :
    CallR X (.builtin "isinstance") (fun xs H Q => ∃ x, xs = [x, .ty t] ∧ rON T (fIs t) [x] H Q) := by
  rintro pins s σ H xs us Q I rs ⟨x, rfl, ι, h, as, v, h', sim, ra, e, q⟩
  unfold fIs at e
  split at e
  case h_2 => cases e
  obtain ⟨n, en, rfl, rfl⟩ := ok?_ok e
  obtain ⟨V1, e1, r1⟩ := reps1 ra
  cases e1
  have hm : n ∈ ["NoneType", "bool", "int", "str", "tuple", "list", "dict"] := by
    unfold tyOf at en
    split at en <;> first
      | (cases en; simp; done)
      | (split at en <;> first | (cases en; simp; done) | cases en)
      | cases en
  exact call_isi pins s σ H _ us Q I rs ⟨x, .ty t, _, _, _, rfl, .ty t, tyOf_x c.K sim en r1, kit_ty (hk n hm), q.val sim (.bl _)⟩

/-! ### methods of lists -/
theorem m_append : MtR X "list.append" (rOM T mAppend) := by
  rintro pins s σ H x xs v us Q I rx rs ⟨ι, h, a, as, w, h', sim, ra, ras, e, q⟩
  unfold mAppend at e
  split at e
  case h_2 => cases e
  split at e
  · split at e
    · rename_i ei
      split at e
      · rename_i hf
        cases e
        obtain ⟨p, vs, rfl, ep, s1, r2⟩ := sim_lst sim ra ei
        obtain ⟨Y, rfl, ry⟩ := reps1 ras
        have hl := SZ_le hf
        have mp := List.mem_of_getElem? ep
        have ext : Ext ι H ι (upd H p (.lst (vs ++ [Y]))) := Ext.wr mp (by rw [s1]; exact True.intro)
        refine mt_append pins s σ H _ _ v us Q I rx rs ⟨p, vs, Y, rfl, rfl, s1, by rw [← r2.length]; exact hl, ?_⟩
        exact q ι _ _ ext (sim.wr ep (.lst upd_same ((r2.append (.cons ry .nil)).mono ext))) .non
      · cases e
    · cases e
  · cases e
theorem m_index (c : Cal T X) : MtR X "list.index" (rOM T mIndex) := by
  rintro pins s σ H x xs v us Q I rx rs ⟨ι, h, a, as, w, h', sim, ra, ras, e, q⟩
  unfold mIndex at e
  split at e
  case h_2 => cases e
  split at e
  case h_2 => cases e
  rename_i y h ys ey
  obtain ⟨n, en, rfl, rfl⟩ := ok?_ok e
  obtain ⟨i, p, vs, rfl, ep, ei, rfl, s1, r2⟩ := lstAt_rep sim ey ra
  obtain ⟨Y, rfl, ry⟩ := reps1 ras
  unfold idxOp at en
  split at en
  case h_2 => cases en
  rename_i d ds ed eds
  split at en
  case isFalse => cases en
  rename_i hs
  rw [Bool.and_eq_true] at hs
  have hd := deep_dp sim ed ry
  have hds := deep_dp sim eds ra
  have s2 : PySem.SeqAt.shaped (dat (.lv ds)) = true := hs.2
  rw [dat] at hds s2
  obtain ⟨hn, hlt, hno⟩ := List.findIdx?_eq_some_iff_getElem.mp en
  have hu := c.un
  have hat : ∀ (m : Nat) (z : PySem.PyData), (dats ds)[m]? = some z → ∃ z', ds[m]? = some z' ∧ z = dat z' := fun m z ez => by
    rw [dats_map, List.getElem?_map] at ez
    obtain ⟨z', h1, h2⟩ := Option.map_eq_some_iff.mp ez
    exact ⟨z', h1, h2.symm⟩
  refine mt_indexD (by omega) pins s σ H _ _ v us Q I rx rs ⟨p, Y, dat d, dats ds, n, dat ds[n], rfl, rfl, c.K ▸ hds, c.K ▸ hd, s2, hs.1, ?_, hlt, fun m z hm ez => ?_, q.val sim (.int _)⟩
  · rw [dats_map, List.getElem?_map, List.getElem?_eq_getElem hn]; rfl
  · obtain ⟨z', h1, rfl⟩ := hat m z ez
    have hml : m < ds.length := (List.getElem?_eq_some_iff.mp h1).1
    have e2 := (List.getElem?_eq_some_iff.mp h1).2
    have := hno m hm
    rw [e2] at this
    have this : ¬ peq z' d = true := this
    cases hq : peq z' d with
    | true => exact absurd hq this
    | false => exact hq
end
end Z

set_option maxRecDepth 100000
/-! Z7: what a call hands over, and what it hands back. -/
namespace Z
open PySem (Str Value Addr Obj Shared Expr Stmt Pos Sem Tok sizeLine sizeLine_eq wpAny model binaryOp compareOp inplaceOp unaryOp call cLine)
open L2

section
variable {T : Tb} {ι ιs : List Addr} {H : Hp} {f : Nat → Option Nat}

/-- places renamed, values as they were -/
def Ren (f : Nat → Option Nat) (ι ιs : List Addr) : Prop := ∀ a b x, f a = some b → ι[a]? = some x → ιs[b]? = some x
mutual
theorem mapV_rep (r : Ren f ι ιs) : ∀ (v v' : Val) (V : V), mapV f v = some v' → Rep T ι H v V → Rep T ιs H v' V
  | .non, v', V, e, q => by cases q; simp only [mapV, Option.some.injEq] at e; subst e; exact .non
  | .bl b, v', V, e, q => by cases q; simp only [mapV, Option.some.injEq] at e; subst e; exact .bl b
  | .int b, v', V, e, q => by cases q; simp only [mapV, Option.some.injEq] at e; subst e; exact .int b
  | .str b, v', V, e, q => by cases q; simp only [mapV, Option.some.injEq] at e; subst e; exact .str b
  | .ref a, v', V, e, q => by
    simp only [mapV] at e
    obtain ⟨b, e1, rfl⟩ := Option.map_eq_some_iff.mp e
    obtain ⟨x, rfl, e2⟩ := rep_ref q
    exact .ref (r a b x e1 e2)
  | .tup xs, v', V, e, q => by
    simp only [mapV] at e
    obtain ⟨b, e1, rfl⟩ := Option.map_eq_some_iff.mp e
    obtain ⟨p, vs, rfl, s, q2⟩ := rep_tup q
    exact .tup s (mapVs_rep r xs b vs e1 q2)
  | .lv xs, v', V, e, q => by
    simp only [mapV] at e
    obtain ⟨b, e1, rfl⟩ := Option.map_eq_some_iff.mp e
    obtain ⟨p, vs, rfl, s, q2⟩ := rep_lv q
    exact .lv s (mapVs_rep r xs b vs e1 q2)
  | .ctp xs, v', V, e, q => by
    simp only [mapV] at e
    obtain ⟨b, e1, rfl⟩ := Option.map_eq_some_iff.mp e
    obtain ⟨p, vs, rfl, s, q2⟩ := rep_ctp q
    exact .ctp s (mapVs_rep r xs b vs e1 q2)
theorem mapVs_rep (r : Ren f ι ιs) : ∀ (v v' : List Val) (V : List V), mapVs f v = some v' → Reps T ι H v V → Reps T ιs H v' V
  | [], v', V, e, q => by cases q; simp only [mapVs, Option.some.injEq] at e; subst e; exact .nil
  | x :: xs, v', V, e, q => by
    cases q with
    | cons q1 q2 =>
      simp only [mapVs] at e
      split at e
      · rename_i y ys ey eys
        cases e
        exact .cons (mapV_rep r x y _ ey q1) (mapVs_rep r xs ys _ eys q2)
      · cases e
end
theorem mapF_rep (r : Ren f ι ιs) : ∀ {fs : List (Nat × Val)} {vs : List Val} {gs : List (Str × V)}, mapVs f (fs.map (·.2)) = some vs → RepF T ι H fs gs → RepF T ιs H ((fs.map (·.1)).zip vs) gs
  | [], vs, _, e, q => by cases q; simp only [List.map_nil, mapVs, Option.some.injEq] at e; subst e; exact .nil
  | (k, x) :: fs, vs, _, e, q => by
    cases q with
    | cons q1 q2 =>
      simp only [List.map_cons, mapVs] at e
      split at e
      · rename_i y ys ey eys
        cases e
        exact .cons (mapV_rep r x y _ ey q1) (mapF_rep r eys q2)
      · cases e
/-- keys have no places -/
theorem mapV_key1 {k v : Val} (e : mapV f k = some v) (h : (key1? k).isSome = true) : v = k := by
  cases k <;> first | (simp only [mapV, Option.some.injEq] at e; exact e.symm) | cases h
theorem mapVs_keys : ∀ {ks vs : List Val} {k : List L2.Key}, mapVs f ks = some vs → ks.mapM key1? = some k → vs = ks
  | [], vs, k, e, h => by simp only [mapVs, Option.some.injEq] at e; exact e.symm
  | x :: xs, vs, k, e, h => by
    rw [List.mapM_cons] at h
    cases h1 : key1? x with
    | none => rw [h1] at h; cases h
    | some k1 =>
      cases h2 : xs.mapM key1? with
      | none => rw [h1, h2] at h; cases h
      | some k2 =>
        simp only [mapVs] at e
        split at e
        · rename_i y ys ey eys
          cases e
          rw [mapV_key1 ey (by rw [h1]; rfl), mapVs_keys eys h2]
        · cases e
theorem mapV_keyT {k v : Val} {t : List L2.Key} (e : mapV f k = some v) (h : keyT? k = some t) : v = k := by
  cases k <;> first | (cases h; done) | skip
  simp only [mapV] at e
  obtain ⟨b, e1, rfl⟩ := Option.map_eq_some_iff.mp e
  rw [mapVs_keys e1 (show List.mapM key1? _ = some t from h)]
theorem mapK_rep {κ : Type} {g : Val → Option κ} (hg : ∀ {k v : Val} {t : κ}, mapV f k = some v → g k = some t → v = k) (r : Ren f ι ιs) :
    ∀ {kvs : List (Val × Val)} {ks vs : List Val} {gs : List (κ × V)}, mapVs f (kvs.map (·.1)) = some ks → mapVs f (kvs.map (·.2)) = some vs → RepK g T ι H kvs gs → RepK g T ιs H (ks.zip vs) gs
  | [], ks, vs, _, e, e', q => by cases q; simp only [List.map_nil, mapVs, Option.some.injEq] at e e'; subst e; subst e'; exact .nil
  | (k, x) :: kvs, ks, vs, _, e, e', q => by
    cases q with
    | cons q0 q1 q2 =>
      simp only [List.map_cons, mapVs] at e e'
      split at e
      · rename_i y ys ey eys
        cases e
        split at e'
        · rename_i z zs ez ezs
          cases e'
          rw [hg ey q0]
          exact .cons q0 (mapV_rep r x z _ ez q1) (mapK_rep hg r eys ezs q2)
        · cases e'
      · cases e
theorem mapO_rep (r : Ren f ι ιs) {o o' : Ob} {a : Addr} (e : mapO f o = some o') (q : ORep T ι H o a) : ORep T ιs H o' a := by
  cases q with
  | lst e1 q =>
    obtain ⟨b, e2, rfl⟩ := Option.map_eq_some_iff.mp e
    exact .lst e1 (mapVs_rep r _ b _ e2 q)
  | dK e1 q =>
    simp only [mapO] at e
    split at e
    · rename_i ks vs ek ev
      cases e
      exact .dK e1 (mapK_rep (fun h1 h2 => mapV_key1 h1 (by rw [h2]; rfl)) r ek ev q)
    · cases e
  | dT e1 q =>
    simp only [mapO] at e
    split at e
    · rename_i ks vs ek ev
      cases e
      exact .dT e1 (mapK_rep (fun h1 h2 => mapV_keyT h1 h2) r ek ev q)
    · cases e
  | set e1 n q => cases e; exact .set e1 n q
  | ins e1 c q =>
    obtain ⟨vs, e2, rfl⟩ := Option.map_eq_some_iff.mp e
    exact .ins e1 c (mapF_rep r e2 q)
end

theorem reach_nodup (h : Hip) : ∀ (n : Nat) (q acc : List Nat), acc.Nodup → (reach h n q acc).Nodup
  | 0, q, acc, d => d
  | n + 1, [], acc, d => d
  | n + 1, a :: q, acc, d => by
    unfold reach
    split
    · exact reach_nodup h n q acc d
    · rename_i hc
      split
      · refine reach_nodup h n _ _ ?_
        rw [List.nodup_append]
        refine ⟨d, by simp, fun x hx y hy => ?_⟩
        rw [List.mem_singleton.mp hy]
        rintro rfl
        exact hc (by simpa using hx)
      · exact d
theorem takeO_at {h : Hip} {f : Nat → Option Nat} : ∀ {L : List Nat} {g : Hip}, takeO h f L = some g → g.length = L.length ∧ ∀ (i a : Nat), L[i]? = some a → ∃ o o', h[a]? = some o ∧ mapO f o = some o' ∧ g[i]? = some o'
  | [], g, e => by simp only [takeO, Option.some.injEq] at e; subst e; exact ⟨rfl, fun i a z => by simp at z⟩
  | b :: L, g, e => by
    simp only [takeO] at e
    split at e
    · rename_i o os eo eos
      cases e
      obtain ⟨l, hh⟩ := takeO_at eos
      obtain ⟨o0, e1, e2⟩ := Option.bind_eq_some_iff.mp eo
      refine ⟨by simp [l], fun i a z => ?_⟩
      cases i with
      | zero => simp at z; subst z; exact ⟨o0, o, e1, e2, rfl⟩
      | succ i => obtain ⟨p, q, h1, h2, h3⟩ := hh i a (by simpa using z); exact ⟨p, q, h1, h2, by simpa using h3⟩
    · cases e
theorem putO_length : ∀ (L : List Nat) (os h : Hip), (putO h L os).length = h.length
  | [], os, h => by cases os <;> rfl
  | a :: L, [], h => rfl
  | a :: L, o :: os, h => by rw [putO, putO_length L os]; simp
theorem putO_out : ∀ (L : List Nat) (os h : Hip) (j : Nat), j ∉ L → (putO h L os)[j]? = h[j]?
  | [], os, h, j, _ => by cases os <;> rfl
  | a :: L, [], h, j, _ => rfl
  | a :: L, o :: os, h, j, n => by
    rw [putO, putO_out L os _ j (fun m => n (List.mem_cons_of_mem _ m)), List.getElem?_set_ne (by rintro rfl; exact n List.mem_cons_self)]
theorem putO_in : ∀ (L : List Nat) (os h : Hip) (i j : Nat) (o : Ob), L.Nodup → L[i]? = some j → os[i]? = some o → j < h.length → (putO h L os)[j]? = some o
  | [], os, h, i, j, o, _, e, _, _ => by simp at e
  | a :: L, [], h, i, j, o, _, _, e, _ => by simp at e
  | a :: L, o' :: os, h, 0, j, o, nd, e1, e2, hj => by
    simp at e1 e2
    subst e1; subst e2
    rw [putO, putO_out L os _ a (List.nodup_cons.mp nd).1, List.getElem?_set_self hj]
  | a :: L, o' :: os, h, i + 1, j, o, nd, e1, e2, hj => by
    rw [putO]
    exact putO_in L os _ i j o (List.nodup_cons.mp nd).2 (by simpa using e1) (by simpa using e2) (by simpa using hj)

theorem idxOf?_get {L : List Nat} {a i : Nat} (e : L.idxOf? a = some i) : L[i]? = some a := by
  obtain ⟨h1, h2, _⟩ := List.findIdx?_eq_some_iff_getElem.mp (show L.findIdx? (· == a) = some i from e)
  rw [List.getElem?_eq_getElem h1]
  simpa using h2

section
variable {T : Tb} {ι : List Addr} {H : Hp} {h : Hip}
/-- the addresses of what is handed over -/
def subs (ι : List Addr) (L : List Nat) : List Addr := L.map fun a => ι.getD a 0
theorem subs_at {ι : List Addr} {L : List Nat} {i a : Nat} {x : Addr} (e : L[i]? = some a) (e2 : ι[a]? = some x) : (subs ι L)[i]? = some x := by
  unfold subs
  rw [List.getElem?_map, e]
  simp [List.getD, e2]
theorem subs_get {ι : List Addr} {L : List Nat} (hv : ∀ a ∈ L, a < ι.length) {i : Nat} {x : Addr} (e : (subs ι L)[i]? = some x) : ∃ a, L[i]? = some a ∧ ι[a]? = some x := by
  unfold subs at e
  rw [List.getElem?_map] at e
  obtain ⟨a, e1, rfl⟩ := Option.map_eq_some_iff.mp e
  refine ⟨a, e1, ?_⟩
  have := hv a (List.mem_of_getElem? e1)
  simp [List.getD, List.getElem?_eq_getElem this]
theorem nodup_at {α : Type} {l : List α} (nd : l.Nodup) {i j : Nat} {x : α} (e1 : l[i]? = some x) (e2 : l[j]? = some x) : i = j := by
  have h1 := (List.getElem?_eq_some_iff.mp e1)
  have h2 := (List.getElem?_eq_some_iff.mp e2)
  obtain ⟨a1, b1⟩ := h1
  obtain ⟨a2, b2⟩ := h2
  exact (List.getElem_inj (h₀ := a1) (h₁ := a2) nd).mp (b1.trans b2.symm)
theorem subs_nodup {ι : List Addr} {L : List Nat} (ni : ι.Nodup) (nl : L.Nodup) (hv : ∀ a ∈ L, a < ι.length) : (subs ι L).Nodup := by
  unfold subs List.Nodup
  rw [List.pairwise_map]
  refine List.Pairwise.imp_of_mem (fun {a b} ha hb hne e => hne ?_) nl
  have h1 := hv a ha
  have h2 := hv b hb
  have e1 : ι[a]? = some (ι.getD a 0) := by simp [List.getD, List.getElem?_eq_getElem h1]
  have e2 : ι[b]? = some (ι.getD b 0) := by simp [List.getD, List.getElem?_eq_getElem h2]
  rw [← e] at e2
  exact nodup_at ni e1 e2
theorem enter_ok {vs us : List Val} {L : List Nat} {g : Hip} {Vs : List V} (e : enterC vs h = some (L, us, g)) (s : Sim T ι h H) (r : Reps T ι H vs Vs) :
    Sim T (subs ι L) g H ∧ Reps T (subs ι L) H us Vs ∧ L.Nodup ∧ (∀ a ∈ L, a < ι.length) := by
  unfold enterC at e
  simp only at e
  split at e
  case h_2 => cases e
  rename_i us' g' eu eg
  simp only [Option.some.injEq, Prod.mk.injEq] at e
  obtain ⟨rfl, rfl, rfl⟩ := e
  generalize hL : reach h RF (refsVs vs) [] = L at eu eg ⊢
  have nl : L.Nodup := by rw [← hL]; exact reach_nodup _ _ _ _ List.nodup_nil
  obtain ⟨lg, hg⟩ := takeO_at eg
  have hv : ∀ a ∈ L, a < ι.length := fun a m => by
    obtain ⟨i, hi, e⟩ := List.getElem_of_mem m
    obtain ⟨o, _, e1, _⟩ := hg i a (by rw [List.getElem?_eq_getElem hi, e])
    rw [← s.len]
    exact (List.getElem?_eq_some_iff.mp e1).1
  have ren : Ren (place L) ι (subs ι L) := fun a b x e1 e2 => subs_at (idxOf?_get e1) e2
  refine ⟨⟨subs_nodup s.nd nl hv, by simp [subs, lg], fun i a o e1 e2 => ?_⟩, mapVs_rep ren _ _ _ eu r, nl, hv⟩
  obtain ⟨l, e3, e4⟩ := subs_get hv e1
  obtain ⟨o1, o2, h1, h2, h3⟩ := hg i l e3
  rw [e2] at h3; cases h3
  exact mapO_rep ren h2 (s.at e4 h1)
theorem leave_ok {L : List Nat} {w v : Val} {g' h' : Hip} {ι2 : List Addr} {H' : Hp} {W : V} (e : leaveC L w g' h = .ok v h') (s : Sim T ι h H) (nl : L.Nodup) (hv : ∀ a ∈ L, a < ι.length)
    (ext : Ext (subs ι L) H ι2 H') (s2 : Sim T ι2 g' H') (r : Rep T ι2 H' w W) : ∃ ι', Ext ι H ι' H' ∧ Sim T ι' h' H' ∧ Rep T ι' H' v W := by
  unfold leaveC at e
  simp only at e
  generalize hN : (reach g' RF (refsV w ++ refsAll (g'.take L.length)) []).filter (fun i => decide (L.length ≤ i)) = New at e
  have nn : New.Nodup := by rw [← hN]; exact (reach_nodup _ _ _ _ List.nodup_nil).filter _
  have nge : ∀ n ∈ New, L.length ≤ n := fun n m => by rw [← hN] at m; exact of_decide_eq_true (List.mem_filter.mp m).2
  split at e
  case h_2 => cases e
  rename_i u os ns eu eo en
  cases e
  have ls : (subs ι L).length = L.length := by simp [subs]
  obtain ⟨lo, ho⟩ := takeO_at eo
  obtain ⟨ln, hn⟩ := takeO_at en
  have hv2 : ∀ a ∈ New, a < ι2.length := fun a m => by
    obtain ⟨i, hi, e⟩ := List.getElem_of_mem m
    obtain ⟨o, _, e1, _⟩ := hn i a (by rw [List.getElem?_eq_getElem hi, e])
    rw [← s2.len]
    exact (List.getElem?_eq_some_iff.mp e1).1
  -- where the callee's places lie
  have old : ∀ {i : Nat} {a : Nat} {x : Addr}, L[i]? = some a → ι2[i]? = some x → ι[a]? = some x := fun {i a x} e1 e2 => by
    have ha := hv a (List.mem_of_getElem? e1)
    have e3 := subs_at e1 (List.getElem?_eq_getElem ha)
    rw [ext.at e3] at e2
    rw [← e2]
    exact List.getElem?_eq_getElem ha
  have fresh : ∀ {n : Nat} {x : Addr}, n ∈ New → ι2[n]? = some x → H x = none := fun {n x} m e1 => by
    refine ext.fresh x (List.mem_of_getElem? e1) fun mx => ?_
    obtain ⟨i, hi, e2⟩ := List.getElem_of_mem mx
    have e3 : (subs ι L)[i]? = some x := by rw [List.getElem?_eq_getElem hi, e2]
    have := nodup_at s2.nd e1 (ext.at e3)
    have := nge n m
    omega
  have ren : Ren (backTo L New h.length) ι2 (ι ++ subs ι2 New) := fun i b x e1 e2 => by
    unfold backTo at e1
    split at e1
    · rename_i a ea
      cases e1
      have e3 := old ea e2
      rw [List.getElem?_append_left (List.getElem?_eq_some_iff.mp e3).1]
      exact e3
    · obtain ⟨j, e3, rfl⟩ := Option.map_eq_some_iff.mp e1
      rw [List.getElem?_append_right (by rw [s.len]; exact Nat.le_add_right _ _), s.len, Nat.add_sub_cancel_left]
      exact subs_at (idxOf?_get e3) e2
  have ext' : Ext ι H (ι ++ subs ι2 New) H' := by
    refine ⟨List.prefix_append _ _, fun a o e1 c => ?_, fun a m n => ?_⟩
    · refine ext.keep a o e1 ?_
      rcases c with c | c
      · refine .inl fun m => c ?_
        obtain ⟨i, hi, e2⟩ := List.getElem_of_mem m
        obtain ⟨l, _, e4⟩ := subs_get hv (show (subs ι L)[i]? = some a by rw [List.getElem?_eq_getElem hi, e2])
        exact List.mem_of_getElem? e4
      · exact .inr c
    · rcases List.mem_append.mp m with m | m
      · exact absurd m n
      · obtain ⟨i, hi, e2⟩ := List.getElem_of_mem m
        obtain ⟨l, e3, e4⟩ := subs_get hv2 (show (subs ι2 New)[i]? = some a by rw [List.getElem?_eq_getElem hi, e2])
        exact fresh (List.mem_of_getElem? e3) e4
  refine ⟨_, ext', ⟨?_, ?_, fun j a o e1 e2 => ?_⟩, mapV_rep ren _ _ _ eu r⟩
  · rw [List.nodup_append]
    refine ⟨s.nd, subs_nodup s2.nd nn hv2, fun x hx y hy => ?_⟩
    rintro rfl
    obtain ⟨i, hi, e2⟩ := List.getElem_of_mem hy
    obtain ⟨l, e3, e4⟩ := subs_get hv2 (show (subs ι2 New)[i]? = some x by rw [List.getElem?_eq_getElem hi, e2])
    obtain ⟨z, e5, _⟩ := s.has hx
    rw [fresh (List.mem_of_getElem? e3) e4] at e5
    cases e5
  · rw [List.length_append, List.length_append, putO_length, s.len, ln]; simp [subs]
  · by_cases hj : j < h.length
    · rw [List.getElem?_append_left (by rw [← s.len]; exact hj)] at e1
      rw [List.getElem?_append_left (by rw [putO_length]; exact hj)] at e2
      by_cases hm : j ∈ L
      · obtain ⟨i, hi, e3⟩ := List.getElem_of_mem hm
        have e3' : L[i]? = some j := by rw [List.getElem?_eq_getElem hi, e3]
        obtain ⟨o1, o2, h1, h2, h3⟩ := ho i i (by simp [hi])
        rw [putO_in L os h i j o2 nl e3' h3 hj] at e2
        cases e2
        have hi2 : i < ι2.length := by rw [← s2.len]; exact (List.getElem?_eq_some_iff.mp h1).1
        have e5 := old e3' (List.getElem?_eq_getElem hi2)
        rw [e1] at e5; cases e5
        exact mapO_rep ren h2 (s2.at (List.getElem?_eq_getElem hi2) h1)
      · rw [putO_out L os h j hm] at e2
        have q := s.at e1 e2
        refine q.mono ext' ?_
        obtain ⟨z, e5, _⟩ := s.has (List.mem_of_getElem? e1)
        rw [e5]
        refine ext.keep a z e5 (.inl fun m => hm ?_)
        obtain ⟨i, hi, e6⟩ := List.getElem_of_mem m
        obtain ⟨l, e7, e8⟩ := subs_get hv (show (subs ι L)[i]? = some a by rw [List.getElem?_eq_getElem hi, e6])
        rw [nodup_at s.nd e1 e8]
        exact List.mem_of_getElem? e7
    · have hj' : h.length ≤ j := Nat.le_of_not_lt hj
      rw [List.getElem?_append_right (by rw [← s.len]; exact hj')] at e1
      rw [List.getElem?_append_right (by rw [putO_length]; exact hj'), putO_length] at e2
      rw [← s.len] at e1
      obtain ⟨l, e3, e4⟩ := subs_get hv2 e1
      obtain ⟨o1, o2, h1, h2, h3⟩ := hn _ l e3
      rw [e2] at h3; cases h3
      exact mapO_rep ren h2 (s2.at e4 h1)
end
end Z

set_option maxRecDepth 100000
/-! Z8: defs by their promises, where nothing is being shown around them. -/
namespace Z
open PySem (Str Value Addr Obj Shared Expr Stmt Pos Sem Tok Around Program World Heap FuncData Args Arguments Scope Keyword sizeLine sizeLine_eq wpAny codeAny model binaryOp compareOp inplaceOp unaryOp call cLine wpAny_mono codeAny_mono)
open L2
open PyProof.Rows (envOfC)

structure Rm (k : Nat) (A : Around) : Prop where
  room : Room k A
  gd : A.guards = some []
theorem Rm.mono {j k : Nat} {A : Around} (r : Rm k A) (h : j ≤ k) : Rm j A := ⟨r.room.mono h, r.gd⟩
theorem Rm.deeper {k : Nat} {A : Around} (r : Rm (k + 1) A) (env : PySem.Env) : Rm k (A.deeper env) := ⟨r.room.deeper env, r.gd⟩
theorem Rm.make {k : Nat} {A : Around} (r : Rm (k + 1) A) (C : Addr) (us : List Value) (kw : List (Str × Value)) :
    Rm k (A.under (.builtin "type.__call__" ⟨.ref C :: us, kw⟩)) := by
  refine ⟨r.room.make C us kw, ?_⟩
  have e0 : (PySem.Code.builtin "type.__call__" ⟨.ref C :: us, kw⟩).isGuard = false := by
    show PySem.guardIds.contains "type.__call__" = false
    decide +kernel
  have e : (PySem.Code.builtin "type.__call__" ⟨.ref C :: us, kw⟩).guards = [] := by
    unfold PySem.Code.guards
    rw [e0]
    rfl
  have e2 : (A.under (.builtin "type.__call__" ⟨.ref C :: us, kw⟩)).guards = PySem.pushGuards (PySem.Code.builtin "type.__call__" ⟨.ref C :: us, kw⟩).guards A.guards := rfl
  rw [e2, e]
  exact r.gd

abbrev Wn := List V → Hp → VK → Prop
/-- the def at f keeps its promise -/
structure FnC (P : Program) (w : World) (K : PySem.W.Frag) (mg : Str → Option Value) (base : Heap) (k : Nat) (f : Addr) (fd : FuncData) (ps : List Str) (sp : Wn) : Prop where
  len : ∀ vs H Q, sp vs H Q → vs.length = ps.length
  run : ∀ (A : Around) (outer : List PySem.Env) (s : Shared) (H : Hp) (args : Args) (us : List Value) (vs : List V) (Q : VK),
    Rm k A → Env0 P w K mg base A outer s H → PySem.BindsTo s fd args (ps.zip us) → Vals vs us → sp vs H Q →
    codeAny (model P w) A (.call (.ref f) args) (CR L2.CX0 outer P w H s Q L2.E0) s

section
variable {P : Program} {w : World} {K : PySem.W.Frag} {mg : Str → Option Value} {base : Heap}
/-- by its body -/
theorem fnC_of {k : Nat} {f : Addr} {name qual : Str} {params : Arguments} {body : List Stmt} {scope : Scope} {dV kV doc pm cdv ct oc : Value} {an od : Option Addr} {osl : Array (Option Value)} {N ps : List Str} {sp : Wn}
    (lk : K.lookup f = some ⟨oc, od, .func (PySem.W.fnOf name qual params body scope dV kV doc pm an cdv ct), osl⟩) (hcd : PySem.W.codeIn K cdv qual = true) (S : FnScope N ps scope)
    (hlen : ∀ vs H Q, sp vs H Q → vs.length = ps.length)
    (hbody : ∀ (A : Around) (outer : List PySem.Env) (s : Shared) (H : Hp) (vs : List V) (Q : VK), Rm k (A.deeper (envOfC qual scope s.heap.objs.size f cdv)) → sp vs H Q →
      ∃ t, PSs (cxOf L2.CX0 P w K mg base N qual scope f cdv A outer s H L2.E0).nox body t ∧ t { nx := fun _ H2 => Q .non H2, rt := Q } (start N vs) H) :
    FnC P w K mg base (k + 1) f (PySem.W.fnOf name qual params body scope dV kV doc pm an cdv ct) ps sp := by
  constructor
  · exact hlen
  intro A outer s H args us vs Q rm e0 bnd rv hsp
  have kept : ∀ b o, base.get? b = some o → s.heap.get? b = some o := fun b o q => (e0.bs b o q).1
  have KX : K.In s.heap := e0.mod.kin.keeps kept
  have lim := e0.mod.nolimit.keeps kept
  have cellsOf : ∀ y ∈ ps.zip us, scope.names.lookup y.1 = some .local ∨ (scope.names.lookup y.1 = some .cell ∧ ((PySem.cellsFrom (s.heap.objs.size + 1) scope.names []).lookup y.1).isSome = true) := by
    rintro ⟨n, v⟩ hy
    cases S.par n (List.of_mem_zip hy).1 with
    | inl q => exact .inl q
    | inr q => exact .inr ⟨q, PySem.W.cellsFrom_some _ _ _ (.inl q)⟩
  refine PySem.codeAny_call_function rm.room.depth (KX _ _ lk) rfl S.co S.gen rfl (PySem.W.codeRec_of KX hcd) (bnd _ _ _ _ ?_)
  refine PySem.wpAny_newFunctionEnv_cells S.kind cellsOf fun env he s1 inc => ?_
  subst he
  refine ⟨lim.keeps inc.toInCall.keep, PySem.codeAny_func ?_⟩
  obtain ⟨t, ht, hq⟩ := hbody A outer s H vs Q (rm.deeper _) hsp
  have I0 := inv_start (CX := L2.CX0) (E := L2.E0) S rm.room.hd e0 (hlen _ _ _ hsp) rv inc
  refine wpAny_mono (ht.nox.run [] s1 (start N vs) H _ I0 hq) ?_ (fun e s2 q => q)
  intro fl s2 hs
  have fin : ∀ {σ2 : L2.St} {H2 : Hp} {v : V} {u : Value}, Inv (cxOf L2.CX0 P w K mg base N qual scope f cdv A outer s H L2.E0) [] σ2 H2 s2 → L2.RelV v u → Q v H2 → CE outer P w H s Q u s2 :=
    fun {σ2 H2 v u} J r q => ⟨v, H2, J.os, J.bare, J.base, J.hok, r, q⟩
  cases fl with
  | ret u => exact let ⟨v, σ2, H2, J, r, q⟩ := hs; fin J r q
  | next => exact let ⟨σ2, H2, J, q⟩ := hs; fin (v := V.non) (u := Value.none) J rfl q
  | brk => exact let ⟨_, _, _, q⟩ := hs; False.elim q
  | cont => exact let ⟨_, _, _, q⟩ := hs; False.elim q
end

section
variable {X : Cx} {k : Nat} {f C : Addr} {fd : FuncData} {ps : List Str} {sp : Wn} {x m : Str} {p pos apos : Pos} {e o : Expr} {es : List Expr} {ta : TE} {t : TA}
/-- behind a call that raises nothing -/
theorem back_of {pins : List (Addr × Obj)} {σ : L2.St} {H : Hp} {s : Shared} {Q : VK} (I : Inv X pins σ H s) {r : PySem.Result} {s' : Shared} (h : CR L2.CX0 X.stack X.prog X.w H s Q L2.E0 r s') :
    ∃ u, r = .ok (.ret u) ∧ EP X pins σ Q u s' := by
  cases r with
  | error _ => exact h.elim
  | ok fl =>
    cases fl with
    | ret u => exact ⟨u, rfl, I.after h⟩
    | next => exact h.elim
    | brk => exact h.elim
    | cont => exact h.elim
theorem doCall {pins : List (Addr × Obj)} {σ : L2.St} {H : Hp} {s : Shared} {Q : VK} {us : List Value} {vs : List V} (F : FnC X.prog X.w X.K X.mg X.base k f fd ps sp) (rm : Rm k X.A) (hb : Binds X.K fd ps [])
    (I : Inv X pins σ H s) (r : Vals vs us) (h : sp vs H Q) : wpAny (model X.prog X.w) X.A (call (.ref f) us) (EP X pins σ Q) X.xe s := by
  have hl : us.length = ps.length := r.length.symm.trans (F.len _ _ _ h)
  have bnd := hb s us I.kIn (by rw [List.append_nil]; exact hl)
  rw [List.append_nil] at bnd
  refine PySem.wpAny_call (codeAny_mono (F.run X.A X.stack s H ⟨us, []⟩ us vs Q rm I.env0 bnd r h) fun r s' hq => ?_)
  obtain ⟨u, rfl, q⟩ := back_of I hq
  exact q
/-- keywords alone: ws their values, in the order perm the parameters' -/
structure KwB (K : PySem.W.Frag) (fd : FuncData) (ps ks : List Str) (perm : List Nat) : Prop where
  to : ∀ (s : Shared) (ws : List Value), K.In s.heap → ws.length = ks.length → PySem.BindsTo s fd ⟨[], ks.zip ws⟩ (ps.zip (perm.filterMap (ws[·]?)))
theorem vals_perm {vs : List V} {us : List Value} (r : Vals vs us) : ∀ perm : List Nat, Vals (perm.filterMap (vs[·]?)) (perm.filterMap (us[·]?))
  | [] => .nil
  | i :: is => by
    have ih := vals_perm r is
    cases e : vs[i]? with
    | none =>
      have e2 : us[i]? = none := by
        rw [List.getElem?_eq_none_iff] at e ⊢
        rw [← r.length]; exact e
      rw [List.filterMap_cons_none e, List.filterMap_cons_none e2]
      exact ih
    | some x =>
      obtain ⟨u, e2, r1⟩ := r.get e
      rw [List.filterMap_cons_some e, List.filterMap_cons_some e2]
      exact .cons r1 ih
theorem doCallK {pins : List (Addr × Obj)} {σ : L2.St} {H : Hp} {s : Shared} {Q : VK} {ws : List Value} {zs : List V} {ks : List Str} {perm : List Nat} (F : FnC X.prog X.w X.K X.mg X.base k f fd ps sp) (rm : Rm k X.A)
    (hb : KwB X.K fd ps ks perm) (I : Inv X pins σ H s) (rz : Vals zs ws) (hl : zs.length = ks.length) (h : sp (perm.filterMap (zs[·]?)) H Q) : wpAny (model X.prog X.w) X.A (call (.ref f) [] (ks.zip ws)) (EP X pins σ Q) X.xe s := by
  have r2 := vals_perm rz perm
  refine PySem.wpAny_call (codeAny_mono (F.run X.A X.stack s H ⟨[], ks.zip ws⟩ _ _ Q rm I.env0 (hb.to s ws I.kIn (by rw [← rz.length]; exact hl)) r2 h) fun r s' hq => ?_)
  obtain ⟨u, rfl, q⟩ := back_of I hq
  exact q
def tC (sp : Wn) (t : TA) : TE := fun σ H Q => t σ H fun vs H1 => sp vs H1 Q
/-- no star among the arguments -/
def plainEs (es : List Expr) : Bool := es.all fun e => match e with
  | .Starred .. => false
  | _ => true
theorem star_cons {e : Expr} {es : List Expr} {env : PySem.Env} (h : plainEs (e :: es) = true) : PySem.starEach (e :: es) env = (false, PySem.eval e env) :: PySem.starEach es env ∧ plainEs es = true := by
  unfold plainEs at h ⊢
  rw [List.all_cons, Bool.and_eq_true] at h
  refine ⟨?_, h.2⟩
  cases e <;> first | rfl | (exact absurd h.1 Bool.false_ne_true)
theorem star_any : ∀ {es : List Expr} {env : PySem.Env} {pos : Pos}, plainEs es = true → (PySem.backTo pos (PySem.starEach es env)).any (·.1) = false
  | [], _, _, _ => rfl
  | e :: es, env, pos, h => by
    obtain ⟨h1, h2⟩ := star_cons (env := env) h
    have := star_any (env := env) (pos := pos) h2
    rw [h1]
    exact this
theorem star_all : ∀ {es : List Expr} {env : PySem.Env} {pos : Pos}, plainEs es = true → (PySem.backTo pos (PySem.starEach es env)).all (fun x => !x.1) = true
  | [], _, _, _ => rfl
  | e :: es, env, pos, h => by
    obtain ⟨h1, h2⟩ := star_cons (env := env) h
    have := star_all (env := env) (pos := pos) h2
    rw [h1]
    exact this
theorem e_call (F : FnC X.prog X.w X.K X.mg X.base k f fd ps sp) (rm : Rm k X.A) (hg : Gl X x) (hm : X.mg x = some (.ref f)) (hk : PySem.W.keepIn X.K (.ref f) = true) (hb : Binds X.K fd ps []) (hdb : (x == ("__debug__" : Str)) = false)
    (ha : PA X es t) (hp : plainEs es = true) (hn : es = [] → ∀ σ H Q, t σ H Q → Q [] H) : PE X (.Call (.Name x p) es [] pos) (tC sp t) := by
  refine ⟨fun pins s σ H Q I h => ?_⟩
  refine PySem.wpAny_Call_Name_kw (ld_glob I hg hm ?_ hdb)
  cases es with
  | nil => exact PySem.W.callWith_K0 I.kIn hk (doCall F rm hb I .nil (hn rfl _ _ _ h))
  | cons a es =>
    obtain ⟨h1, h2⟩ := star_cons (env := X.env) hp
    exact PySem.W.callWith_K (h₀ := X.base) I.ok.mod.kin hk (thn (ha.run pos pins s σ H _ I h) fun us s1 ⟨vs, H1, I1, r, q⟩ => ⟨I1.kIn, doCall F rm hb I1 r q⟩) h1 (star_any h2)

/-! ### keywords -/
/-- every keyword has its name -/
def kwNames : List Keyword → Option (List Str)
  | [] => some []
  | ⟨some n, _, _⟩ :: r => (kwNames r).map (n :: ·)
  | ⟨none, _, _⟩ :: _ => none
theorem kw_facts : ∀ {kws : List Keyword} {ks : List Str} {env : PySem.Env} {pos : Pos}, kwNames kws = some ks →
    (PySem.backToKw pos (PySem.keywordEach kws env)).all (·.1.isSome) = true ∧ (PySem.backToKw pos (PySem.keywordEach kws env)).filterMap (·.1) = ks ∧ (PySem.backToKw pos (PySem.keywordEach kws env)).any (·.1.isNone) = false
  | [], ks, _, _, e => by cases e; exact ⟨rfl, rfl, rfl⟩
  | ⟨some n, v, p⟩ :: r, ks, env, pos, e => by
    obtain ⟨k2, e2, rfl⟩ := Option.map_eq_some_iff.mp (show (kwNames r).map (n :: ·) = some ks from e)
    obtain ⟨h1, h2, h3⟩ := kw_facts (env := env) (pos := pos) e2
    refine ⟨?_, ?_, ?_⟩
    · show (true && (PySem.backToKw pos (PySem.keywordEach r env)).all (·.1.isSome)) = true
      rw [h1]; rfl
    · show n :: (PySem.backToKw pos (PySem.keywordEach r env)).filterMap (·.1) = n :: k2
      rw [h2]
    · show (false || (PySem.backToKw pos (PySem.keywordEach r env)).any (·.1.isNone)) = false
      rw [h3]; rfl
  | ⟨none, _, _⟩ :: _, _, _, _, e => by cases e
def tCK (sp : Wn) (n : Nat) (perm : List Nat) (tk : TA) : TE := fun σ H Q => tk σ H fun zs H2 => zs.length = n ∧ sp (perm.filterMap (zs[·]?)) H2 Q
theorem e_callK {kws : List Keyword} {ks : List Str} {tk : TA} {perm : List Nat} (F : FnC X.prog X.w X.K X.mg X.base k f fd ps sp) (rm : Rm k X.A) (hg : Gl X x) (hm : X.mg x = some (.ref f)) (hk : PySem.W.keepIn X.K (.ref f) = true)
    (hb : KwB X.K fd ps ks perm) (hdb : (x == ("__debug__" : Str)) = false) (hkw : PK X kws tk) (hks : kwNames kws = some ks) :
    PE X (.Call (.Name x p) [] kws pos) (tCK sp ks.length perm tk) := by
  obtain ⟨k1, k2, k3⟩ := kw_facts (env := X.env) (pos := pos) hks
  refine ⟨fun pins s σ H Q I h => ?_⟩
  refine PySem.wpAny_Call_Name_kw (ld_glob I hg hm ?_ hdb)
  refine PySem.W.callWith_KW0 (h₀ := X.base) I.ok.mod.kin hk k1 (thn (hkw.run pos pins s σ H _ I h) fun ws s2 ⟨zs, H2, I2, rz, hl, q2⟩ => ⟨I2.kIn, ?_⟩) (by rw [k3]; rfl)
  rw [k2]
  exact doCallK F rm hb I2 rz hl q2

/-! ### methods, new instances -/
/-- the receiver is no super() -/
def baseOk : Expr → Bool
  | .Call (.Name id _) [] [] _ => id != ("super" : Str)
  | _ => true
theorem base_eq {o : Expr} {m : Str} {env : PySem.Env} (h : baseOk o = true) : PySem.attributeBase o m env (PySem.eval o env) = PySem.eval o env := by
  unfold PySem.attributeBase
  split
  · rename_i id _ _
    have h : (id != ("super" : Str)) = true := h
    simp [h]
  · rfl
def tM (C : Addr) (m : Str) (sp : Wn) (ta : TE) (t : TA) : TE := fun σ H Q => ta σ H fun x H1 => ∃ a dx fs, x = .ref a ∧ H1 a = some (.ins C dx fs) ∧ fs.lookup m = none ∧ t σ H1 fun vs H2 => sp (x :: vs) H2 Q
theorem meth_form {o : Expr} {m : Str} {apos pos : Pos} {es : List Expr} {env : PySem.Env} (hb : baseOk o = true) (hp : plainEs es = true) (hl : es.length < 30) (hline : (apos.endLine == pos.line) = true) :
    PySem.eval (.Call (.Attribute o m apos) es [] pos) env = (do
      let ov ← PySem.eval o env
      PySem.standAt apos.atName
      let (f, first) ← PySem.holding [ov] (PySem.getMethod ov m (do return (← PySem.importBound o env).getD true))
      PySem.callWith pos f first (PySem.backTo pos (PySem.starEach es env)) (PySem.backToKw pos (PySem.keywordEach [] env))) := by
  have hf : PySem.methodCallForm (es.length + ([] : List Keyword).length) (PySem.backTo pos (PySem.starEach es env)) (PySem.backToKw pos (PySem.keywordEach [] env)) = true := by
    unfold PySem.methodCallForm
    rw [star_all hp]
    show (true && true && decide (es.length + 0 + 0 < 30)) = true
    simp
    omega
  show (do
    let ov ← PySem.attributeBase o m env (PySem.eval o env)
    PySem.standAt apos.atName
    PySem.methodCall o m apos pos env ov (es.length + ([] : List Keyword).length) (PySem.backTo pos (PySem.starEach es env)) (PySem.backToKw pos (PySem.keywordEach [] env))) = _
  rw [base_eq hb]
  unfold PySem.methodCall PySem.calleeOf PySem.methodCallPos
  rw [hf, hline]
  rfl
end
end Z

set_option maxRecDepth 100000
/-! Z9: methods and new instances. -/
namespace Z
open PySem (Str Value Addr Obj Shared Expr Stmt Pos Sem Tok Around Program World Heap FuncData Args Arguments Scope Keyword sizeLine sizeLine_eq wpAny codeAny model binaryOp compareOp inplaceOp unaryOp call cLine wpAny_mono codeAny_mono)
open L2

/-- an instance of the class at C has the method, and it keeps its promise -/
structure MOk (X : Cx) (C : Addr) (m : Str) (sp : Wn) : Prop where
  ex : ∃ f fd ps k, Meth X.K C m f ∧ FnC X.prog X.w X.K X.mg X.base k f fd ps sp ∧ Rm k X.A ∧ Binds X.K fd ps []
def tMd (X : Cx) (m : Str) (ta : TE) (t : TA) : TE := fun σ H Q => ta σ H fun x H1 => ∃ a C dx fs sp, x = .ref a ∧ H1 a = some (.ins C dx fs) ∧ fs.lookup m = none ∧ Cls X.K C ∧ MOk X C m sp ∧ t σ H1 fun vs H2 => sp (x :: vs) H2 Q
def tMk (C : Addr) (sp : Wn) (t : TA) : TE := fun σ H Q => t σ H fun vs H1 => ∀ x dx, H1 x = none → H1 dx = none → dx ≠ x →
  sp (.ref x :: vs) (upd (upd H1 dx (.own x)) x (.ins C dx [])) (fun v H2 => v = .non ∧ Q (.ref x) H2)

section
variable {X : Cx} {k : Nat} {f C : Addr} {fd : FuncData} {ps : List Str} {sp : Wn} {x m : Str} {p pos apos : Pos} {e o : Expr} {es : List Expr} {ta : TE} {t : TA}
theorem e_meth (he : PE X o ta) (ha : PA X es t) (hp : plainEs es = true) (hn : es = [] → ∀ σ H Q, t σ H Q → Q [] H) (hb : baseOk o = true) (hl : es.length < 30) (hline : (apos.endLine == pos.line) = true) :
    PE X (.Call (.Attribute o m apos) es [] pos) (tMd X m ta t) := by
  refine ⟨fun pins s σ H Q I h => ?_⟩
  refine PySem.W.methodCall_KW (thn (he.run pins s σ H _ I h) fun u s1 ⟨x, H1, I1, rx, a, C, dx, fs, sp, ex, ea, l, c, mo, q⟩ => ?_) (meth_form hb hp hl hline)
  subst ex
  obtain rfl : u = Value.ref a := rx
  obtain ⟨f, fd, ps, k, hm, F, rm, hb⟩ := mo.ex
  refine getmeth_ok I1 ea c hm l ?_
  cases es with
  | nil => exact PySem.W.callWith_K0 (first := [.ref a]) I1.kIn hm.kp (doCall (us := [.ref a]) (vs := [.ref a]) F rm hb I1 (.cons rfl .nil) (hn rfl _ _ _ q))
  | cons b es =>
    obtain ⟨h1, h2⟩ := star_cons (env := X.env) hp
    refine PySem.W.callWith_K (first := [.ref a]) (h₀ := X.base) I1.ok.mod.kin hm.kp (thn (ha.run pos pins s1 σ H1 _ I1 q) fun us s2 ⟨vs, H2, I2, r, q2⟩ => ⟨I2.kIn, ?_⟩) h1 (star_any h2)
    exact doCall (us := .ref a :: us) (vs := .ref a :: vs) F rm hb I2 (.cons rfl r) q2

theorem doMake {pins : List (Addr × Obj)} {σ : L2.St} {H : Hp} {s : Shared} {Q : VK} {us : List Value} {vs : List V} (M : Mk X.K C f) (F : FnC X.prog X.w X.K X.mg X.base k f fd ps sp) (rm : Rm (k + 1) X.A) (hb : Binds X.K fd ps [])
    (I : Inv X pins σ H s) (r : Vals vs us)
    (h : ∀ x dx, H x = none → H dx = none → dx ≠ x → sp (.ref x :: vs) (upd (upd H dx (.own x)) x (.ins C dx [])) (fun v H2 => v = .non ∧ Q (.ref x) H2)) :
    wpAny (model X.prog X.w) X.A (call (.ref C) us) (EP X pins σ Q) X.xe s := by
  have hq := h (s.heap.objs.size + 1) s.heap.objs.size (I.hok.fresh (Nat.le_succ _)) (I.hok.fresh (Nat.le_refl _)) (Nat.ne_of_lt (Nat.lt_succ_self _))
  have I2 := Inv.made (C := C) I
  have r2 : Vals (V.ref (s.heap.objs.size + 1) :: vs) (Value.ref (s.heap.objs.size + 1) :: us) := .cons rfl r
  have hl : (Value.ref (s.heap.objs.size + 1) :: us).length = ps.length := by
    have e := r2.length
    rw [F.len _ _ _ hq] at e
    exact e.symm
  have bnd := hb _ (Value.ref (s.heap.objs.size + 1) :: us) I2.kIn (by rw [List.append_nil]; exact hl)
  rw [List.append_nil] at bnd
  refine PySem.wpAny_call (make_map (f := f) I.kIn M.makes M.init (beq_iff_eq.mp M.fn) (codeAny_mono (F.run _ X.stack _ _ ⟨Value.ref (s.heap.objs.size + 1) :: us, []⟩ (Value.ref (s.heap.objs.size + 1) :: us) _ _ (rm.make C us [])
    (I2.env0.make C us []) bnd r2 hq) fun r s' hq' => ?_))
  obtain ⟨u, rfl, v, H', I3, rv, ev, q3⟩ := back_of I2 hq'
  subst ev
  exact ⟨rv, ⟨V.ref (s.heap.objs.size + 1), H', I3, rfl, q3⟩⟩
theorem e_make (M : Mk X.K C f) (F : FnC X.prog X.w X.K X.mg X.base k f fd ps sp) (rm : Rm (k + 1) X.A) (hg : Gl X x) (hm : X.mg x = some (.ref C)) (hb : Binds X.K fd ps []) (hdb : (x == ("__debug__" : Str)) = false)
    (ha : PA X es t) (hp : plainEs es = true) (hn : es = [] → ∀ σ H Q, t σ H Q → Q [] H) : PE X (.Call (.Name x p) es [] pos) (tMk C sp t) := by
  refine ⟨fun pins s σ H Q I h => ?_⟩
  refine PySem.wpAny_Call_Name_kw (ld_glob I hg hm ?_ hdb)
  cases es with
  | nil => exact PySem.W.callWith_K0 I.kIn M.kp (doMake (us := []) (vs := []) M F rm hb I .nil (hn rfl _ _ _ h))
  | cons a es =>
    obtain ⟨h1, h2⟩ := star_cons (env := X.env) hp
    exact PySem.W.callWith_K (h₀ := X.base) I.ok.mod.kin M.kp (thn (ha.run pos pins s σ H _ I h) fun us s1 ⟨vs, H1, I1, r, q⟩ => ⟨I1.kIn, doMake M F rm hb I1 r q⟩) h1 (star_any h2)
end
end Z

set_option maxRecDepth 100000
/-! Z10: comprehensions; sets of ints among them. -/
namespace Z
open PySem PySem.Spec PyProof.Rows
open L2

/-- the parts of a comprehension, in each block of its scope -/
structure Bk (X : Cx) (scope : Scope) (tg : Expr) (g : TG) (ifs : List Expr) (tt : TT) (elt : Expr) (te : TE) : Prop where
  g_ : ∀ s H C cl fp, PG (X.blk s H scope (compEnvC scope cl C X.env) fp) tg g
  t_ : ∀ s H C cl fp, PTs (X.blk s H scope (compEnvC scope cl C X.env) fp) ifs tt
  e_ : ∀ s H C cl fp, PE (X.blk s H scope (compEnvC scope cl C X.env) fp) elt te

/-- the set at D while it is filled -/
abbrev AccS (w : World) (D : Addr) (acc : List Int) : HO := SetO w D (fun j => decide (j ∈ acc)) acc.length
theorem accS_add (w : World) (D : Addr) (c : Int) (acc : List Int) :
    SetO w D (fun j => decide (j ∈ acc) || decide (j = c)) (if decide (c ∈ acc) = true then acc.length else acc.length + 1) = AccS w D (addTo c acc) := by
  unfold addTo AccS
  by_cases h : c ∈ acc
  · rw [if_pos (decide_eq_true h), if_pos h]
    congr 1
    funext j
    by_cases e : j = c
    · subst e; simp [h]
    · simp [e]
  · rw [if_neg (by simpa using h), if_neg h]
    congr 1
    · funext j; simp [List.mem_append]
    · simp

def tScI (w : World) (wi : TI) (g : TG) (tt : TT) (te : TE) (vs : List Nat) : TE := fun σ H Q =>
  wi σ H fun J H1 => ∀ D, H1 D = none → ∃ W : Nat → Nat → Hp → Prop, (∃ m, W 0 m (upd H1 D (AccS w D []))) ∧
    ∀ i m H, W i m H → (J.stop i H ∧ Q (.ref D) H) ∨ (J.go i H ∧ ∃ Nx : Hp → Prop, (∀ H', Nx H' → ∃ m', m' < m ∧ W (i + 1) m' H') ∧
      ∀ x H', J.yld i H x H' → g x (wipe σ vs) H' fun σ2 H2 => wipe σ2 vs = wipe σ vs ∧ tt σ2 H2 fun b H3 => if b = true then
        te σ2 H3 fun y H4 => ∃ (c : Int) (acc : List Int), y = .int c ∧ H4 D = some (AccS w D acc) ∧ acc.length + 1 < scanBound ∧ Nx (upd H4 D (AccS w D (addTo c acc)))
      else Nx H3)

section
variable {X : Cx} {pins : List (Addr × Obj)} {σ : L2.St} {H : Hp} {s : Shared} {Q : VK} {elt tg iter : Expr} {ifs : List Expr}
variable {scope : Scope} {own : List (Str × Nat)} {pos : Pos} {wi : TI} {g : TG} {tt : TT} {te : TE}
theorem core_sc {pos' : Pos} {use : Option (Value → Sem Unit)} {Qf : Value → Shared → Prop} (hc : X.calm = true) (hN : X.N.Nodup) (I : Inv X pins σ H s)
    (hi : PI X tg iter wi) (ok : BlkOk X.N X.env.scope scope own) (bk : Bk X scope tg g ifs tt elt te) (hs : ∀ x, PySem.foldedSetIterable iter X.env x = pure x)
    (h : tScI X.w wi g tt te (own.map (·.2)) σ H Q)
    (fin : ∀ D C s' m H', Inv X pins σ H' s' → Q (.ref D) H' → s'.heap.Ns C m → FpOk X pins H' C → compPost (model X.prog X.w) X.A X.xe use Qf (.ref D) C (.ok .next) s') :
    wpAny (model X.prog X.w) X.A (comprehension (.SetComp elt [⟨tg, iter, ifs, 0⟩] scope pos) scope X.env pos' (newSet (.type "set")) false (eval iter X.env) use) Qf X.xe s := by
  have frees : ∀ y ∈ scope.names, y.2 = .free → ∃ c, X.env.cells.lookup y.1 = some c := fun y hy e =>
    (ok.free y hy e).elim (fun k => I.ok.has _ (.inl k)) fun k => I.ok.has _ (.inr k)
  refine wpAny_comprehension_free (use := use) rfl hs (closure_ok frees) ok.kind (fun y hy e => by rw [ok.uniq y hy, e]) (thn (hi.run pins s σ H _ I h) fun xv sA hx => thn hx fun itv sB hB => ?_)
  obtain ⟨it, fp, tn, J, HB, rfl, IB, Tu, stB, fB, q⟩ := hB
  refine PpSet.newSet_ok (newEnv_comp ?_)
  obtain ⟨D, hD⟩ : ∃ D, D = sB.heap.objs.size := ⟨_, rfl⟩
  have noD : HB D = none := IB.hok.fresh (Nat.le_of_eq hD.symm)
  obtain ⟨W, ⟨m0, w0⟩, turn⟩ := q D noD
  rw [← hD]
  -- with the empty set
  obtain ⟨sC, hsC⟩ : ∃ sC : Shared, sC = { sB with heap := sB.heap.push { cls := .type "set", dict := none, data := .set #[] 0 (.fresh 0 0 (!X.w.params.followText "set-order")) } } := ⟨_, rfl⟩
  have hpC : sC.heap = sB.heap.push { cls := .type "set", dict := none, data := .set #[] 0 (.fresh 0 0 (!X.w.params.followText "set-order")) } := by rw [hsC]
  have emp : (AccS X.w D []) = SetO X.w D (fun _ => false) 0 := by show SetO X.w D (fun j => decide (j ∈ ([] : List Int))) 0 = _; congr 1
  have IC : Inv X pins σ (upd HB D (AccS X.w D [])) sC := by
    rw [hsC, emp]
    refine IB.laid (t' := sB.toks) (fun b o e => PySem.Heap.get?_push_of_some _ e) (Nat.le_of_eq hD.symm) ?_
    rw [hD]
    exact setO_new (setR_fresh X.w)
  obtain ⟨HC, hHC⟩ : ∃ HC, HC = upd HB D (AccS X.w D []) := ⟨_, rfl⟩
  rw [← hHC] at IC w0
  have small : ∀ b ∈ fp, b < sB.heap.objs.size := fun b hb => let ⟨_, e, _⟩ := Tu.obj _ _ stB b hb; PySem.Heap.lt_size e
  have fC : ∀ b ∈ fp, FpOk X pins HC b ∧ b < sC.heap.objs.size := fun b hb => by
    have lt := small b hb
    refine ⟨⟨?_, (fB b hb).2⟩, by rw [hpC, PySem.Heap.size_push]; exact Nat.lt_succ_of_lt lt⟩
    rw [hHC, upd_ne (by rw [hD]; exact Nat.ne_of_lt lt)]
    exact (fB b hb).1
  have stC : tn 0 sC.heap := Tu.keep _ _ _ stB fun b _ o e => by rw [hpC]; exact PySem.Heap.get?_push_of_some _ e
  have IS := block_start IC ok hN fC
  obtain ⟨ce, hce⟩ : ∃ ce, ce = compEnvC scope (PySem.cellsFrom (sC.heap.objs.size + 1) scope.names (cloFrom X.env.cells scope.names [])) sC.heap.objs.size X.env := ⟨_, rfl⟩
  have bg := bk.g_ sC HC sC.heap.objs.size (PySem.cellsFrom (sC.heap.objs.size + 1) scope.names (cloFrom X.env.cells scope.names [])) fp
  have bt := bk.t_ sC HC sC.heap.objs.size (PySem.cellsFrom (sC.heap.objs.size + 1) scope.names (cloFrom X.env.cells scope.names [])) fp
  have be := bk.e_ sC HC sC.heap.objs.size (PySem.cellsFrom (sC.heap.objs.size + 1) scope.names (cloFrom X.env.cells scope.names [])) fp
  rw [← hce] at IS bg bt be
  have ceL : ce.locals = sC.heap.objs.size := by rw [hce]; rfl
  obtain ⟨sS, hsS⟩ : ∃ sS : Shared, sS = { sC with heap := PySem.pushCells (sC.heap.push { cls := .type "dict", data := .dict #[] }) scope.names } := ⟨_, rfl⟩
  rw [← hsS] at IS
  have stS : tn 0 sS.heap := Tu.keep _ _ _ stC fun b _ o e => by rw [hsS]; exact PySem.pushCells_keeps _ _ _ _ (PySem.Heap.get?_push_of_some _ e)
  have stays : ∀ {σ' : L2.St} {H' : Hp} {s' : Shared}, Inv (X.blk sC HC scope ce fp) [] σ' H' s' → (∀ b ∈ fp, H' b = none) → ∀ b ∈ fp, FpOk (X.blk sC HC scope ce fp) [] H' b :=
    fun {σ' H' s'} I' none b hb => ⟨none b hb, (I'.ok.exf b hb).1, I'.ok.exfs b hb, .inl hb, fun x c e => (I'.ok.exf b hb).2 x c e, fun p hp => absurd hp (List.not_mem_nil)⟩
  have loop : codeAny (model X.prog X.w) X.A (.compLoop (.SetComp elt [⟨tg, iter, ifs, 0⟩] scope pos) 0 (.ref it) (.ref D) ce) (compPost (model X.prog X.w) X.A X.xe use Qf (.ref D) sC.heap.objs.size) sS := by
    refine PpSet.compLoopS_any (fun n s' => ∃ i H', Inv (X.blk sC HC scope ce fp) [] (wipe σ (own.map (·.2))) H' s' ∧ tn i s'.heap ∧ (∀ b ∈ fp, H' b = none) ∧ W i n H') ?_ m0 ⟨0, HC, IS, stS, fun b hb => (fC b hb).1.1, w0⟩
    rintro n sL ⟨i, HL, IL, stL, nL, wL⟩
    rcases turn i n HL wL with ⟨stop, qq⟩ | ⟨go, Nx, hNx, step⟩
    · refine thnF (Tu.done (X.blk sC HC scope ce fp) rfl rfl rfl hc i [] sL _ HL (fun _ _ => False) IL (stays IL nL) stL stop) fun r sE ⟨hr, IE⟩ => ?_
      subst hr
      have back : Inv X pins σ HL sE := IC.call' (ch := fp) IE.os IE.base IE.hok IE.bare fun b hb => let f := (fC b hb).1.2; ⟨f.2.2.1, f.1, f.2.2.2.1, f.2.2.2.2⟩
      obtain ⟨m, hn, _⟩ := IE.loc
      have hn : sE.heap.Ns ce.locals m := hn
      have no : HL ce.locals = none := IE.free
      rw [ceL] at hn no
      exact fin D sC.heap.objs.size sE m HL back qq hn (IC.fpOk (Nat.le_refl _) no)
    · refine thnF (Tu.item (X.blk sC HC scope ce fp) rfl rfl rfl hc i [] sL _ HL (fun _ _ => False) IL (stays IL nL) stL go) fun r sE ⟨u, hr, hE⟩ => ?_
      subst hr
      refine thnF hE fun _ sF ⟨x, HF, IF, rF, yF, stF, nF⟩ => ?_
      refine thnF (bg.run _ sF _ HF x u _ (IF.pinned (stays IF nF) (Tu.obj _ _ stF)) rF (step x HF yF)) fun _ sG ⟨σG, HG, IG, wG, qG⟩ => ?_
      refine thnF (bt.run _ sG σG HG _ IG qG) fun b sK ⟨HK, IK, qK⟩ => ?_
      have again : ∀ {s' : Shared} {H' : Hp}, Inv (X.blk sC HC scope ce fp) ([] ++ pinsAt fp sF.heap) σG H' s' → Nx H' →
          ∃ m, m < n ∧ ∃ i H', Inv (X.blk sC HC scope ce fp) [] (wipe σ (own.map (·.2))) H' s' ∧ tn i s'.heap ∧ (∀ b ∈ fp, H' b = none) ∧ W i m H' := fun {s' H'} I' nx => by
        obtain ⟨m', lt, w'⟩ := hNx H' nx
        have pinned : ∀ b ∈ fp, ∀ o, sF.heap.get? b = some o → s'.heap.get? b = some o ∧ H' b = none := fun b hb o e =>
          let z := I'.pin (b, o) (List.mem_append_right _ (List.mem_append_right _ (mem_pinsAt hb e)))
          ⟨z.1, z.2.1⟩
        have hl : (wipe σ (own.map (·.2))).length = σG.length := by rw [← wG, wipe_length]
        refine ⟨m', lt, i + 1, H', (I'.unpinned (pins := [])).weak hl (fun j v e => ?_), Tu.keep _ _ _ stF fun b hb o e => (pinned b hb o e).1, fun b hb => ?_, w'⟩
        · rw [← wG] at e; exact (wipe_some e).1
        · obtain ⟨o, e, _⟩ := Tu.obj _ _ stF b hb
          exact (pinned b hb o e).2
      cases b with
      | false => exact again IK qK
      | true =>
        refine thnF (be.run _ sK σG HK _ IK qK) fun z sM ⟨yv, HM, IM, rM, c, acc, ey, eD, room, nx⟩ => ?_
        subst ey
        refine thnF (mt_sadd (X := X.blk sC HC scope ce fp) _ sM σG HM (.ref D) [.int c] (.ref D) [z] (fun _ H' => Nx H') IM rfl (.cons rM .nil) ⟨D, c, _, _, rfl, rfl, eD, room, ?_⟩) fun _ sN ⟨_, HN, IN, _, nx⟩ => again IN nx
        rw [accS_add]
        exact nx
  have whole := PpSet.codeAny_compStart_set (rest := []) loop (Tu.self X.A 0 _ _ _ stS loop)
  subst hsS hce hsC hD
  exact whole
end
end Z

set_option maxRecDepth 100000
/-! Z11: enumerate over tuples. -/
namespace Z
open PySem PySem.Spec PyProof.Rows
open L2

set_option maxHeartbeats 1000000 in
theorem enum_meets {v : Value} {o : Obj} {H : Heap → Prop} (B : Begins v o H) :
    Meets (Builtin.«enumerate.__new__» ⟨[.type "enumerate", v], []⟩) (fun _ R s => H s.heap ∧ R (.ok (.ret (.ref (s.heap.push o).objs.size)))
      { s with heap := (s.heap.push o).push { cls := .type "enumerate", data := .fields #[.none, .bool false, .ref s.heap.objs.size, rawInt 0, .none, .none] } }) :=
  .of_wp fun prog w A R s hh => by
    obtain ⟨hp, g, d, tk, os⟩ := s
    obtain ⟨hH, h⟩ := hh
    have hsub := sub_enumerate
    have begun : ∀ {A' : Around} {E : Value → Shared → Prop} {Q : Value → Shared → Prop}, Q (.ref hp.objs.size) ⟨hp.push o, g, d, tk, os⟩ → wpAny (model prog w) A' (pyIter v) Q E ⟨hp, g, d, tk, os⟩ :=
      fun q => B.iter prog w _ _ ⟨hp, g, d, tk, os⟩ _ hH q
    wp_walk using begun
    refine wpAny_stack_any fun st => wpAny_pure ?_
    split
    · rename_i c _ _ _ _ _
      cases (c == Value.type "enumerate") <;> (wp_walk using begun; exact ⟨_, rfl, h⟩)
    · wp_walk using begun
      exact ⟨_, rfl, h⟩

/-- the pairs of the tuple at a -/
def IteT (K : PySem.W.Frag) (a : Addr) : It :=
  ⟨fun i H => ∃ (xs : List V) (x : V), SqT K H a xs ∧ xs[i]? = some x,
   fun i H v H' => ∃ T x, v = .ref T ∧ H T = none ∧ H' = upd H T (.tup [.int (i : Nat), x]) ∧ ∀ xs, SqT K H a xs → xs[i]? = some x,
   fun i H => ∃ xs : List V, SqT K H a xs ∧ xs.length = i⟩
theorem enum_apart {h : Heap} {a e it : Addr} {items : Array Value} {i : Nat} {k : Int} {old : Value} (tp : IsTup h a items) (he : IsEnum h e it k old) (hit : h.IsTupleIter it a i) : a ≠ e ∧ a ≠ it := by
  obtain ⟨o, ho, hcl, _⟩ := tp
  refine ⟨fun z => ?_, fun z => ?_⟩
  · subst z
    rw [show h.get? a = some _ from he] at ho
    cases ho
    injection hcl with z
    exact absurd z (by decide)
  · subst z
    obtain ⟨o', ho', hcl', _⟩ := hit
    rw [ho] at ho'
    cases ho'
    rw [hcl] at hcl'
    injection hcl' with z
    exact absurd z (by decide)
theorem turn_enumT {P : Program} {w : World} {K : PySem.W.Frag} {elts : List Expr} {kk : Nat} {tpos : Pos} (a e it : Addr) :
    Turn P w K (.Tuple elts kk tpos) (IteT K a) [e, it] e (fun i h => (∃ old, IsEnum h e it ((i : Nat) : Int) old) ∧ h.IsTupleIter it a i ∧ e ≠ it) where
  mem := List.mem_cons_self
  obj := fun i h st b hb => by
    obtain ⟨⟨old, he⟩, ⟨o, ho, hc, hd⟩, _⟩ := st
    rcases List.mem_cons.mp hb with rfl | hb
    · exact ⟨_, he, fun v q => nomatch q⟩
    · rw [List.mem_singleton.mp hb]
      exact ⟨o, ho, fun v q => by rw [hd] at q; cases q⟩
  keep := fun i h h' ⟨⟨old, he⟩, hi, ne⟩ k => ⟨⟨old, k e List.mem_cons_self _ he⟩, hi.at fun o q => k it (List.mem_cons_of_mem _ List.mem_cons_self) o q, ne⟩
  item := by
    intro X hP hw hK hc i pins s σ H E I hf st hg
    subst hP hw hK
    obtain ⟨⟨old, he⟩, hit, hne⟩ := st
    obtain ⟨xs, x, hq, hx⟩ := hg
    obtain ⟨its, rv, tp, hz⟩ := I.tuple hq
    obtain ⟨u, hu, ru⟩ := rv.get hx
    have hel : e < s.heap.objs.size := Heap.lt_size he
    have hil : it < s.heap.objs.size := by obtain ⟨_, q, _⟩ := hit; exact Heap.lt_size q
    obtain ⟨nea, nit⟩ := enum_apart tp he hit
    have hh : X.A.in1.handled = none := I.ok.hd hc
    have lt : i < its.toArray.size := by
      have := (List.getElem?_eq_some_iff.mp hu).1
      simpa using this
    refine wpAny_pyNext_enum_itemD (Draws.tuple hh it a nit its.toArray) he ⟨hit, tp⟩ lt hne (by simp [Ne.symm nea, hne]) fun y h' tk hy ho hs' hT hsz hk => ?_
    have ey : y = u := by
      have : its[i]? = some y := by simpa using hy
      rw [hu] at this
      exact (Option.some.inj this).symm
    subst ey
    refine ⟨_, rfl, wpAny_letOwnedTupleGo_enum (s := { s with heap := h', toks := tk + 1 }) ho fun h'' he' sb => ?_⟩
    have at2 : h''.get? s.heap.objs.size = some { cls := .type "tuple", data := .seq #[.int i tk, y] } := (sb.2 _ (Nat.ne_of_gt hel)).trans hT
    have new : ObjOk X.prog X.w (upd H s.heap.objs.size (.tup [.int (i : Nat), x])) h'' s.heap.objs.size (.tup [.int (i : Nat), x]) :=
      ⟨by show 2 ≤ sizeLine; decide, [.int i tk, y], .cons ⟨_, rfl⟩ (.cons ru .nil), ⟨_, at2, rfl, _, rfl⟩⟩
    have kept : ∀ b ob, b ∉ [e, it] → s.heap.get? b = some ob → h''.get? b = some ob := fun b ob hb q => by
      have n1 : b ≠ e := fun z => hb (by simp [z])
      exact (sb.2 b n1).trans (hk b ob n1 (fun z => hb (by simp [z])) q)
    refine ⟨.ref s.heap.objs.size, _, I.turnedNew (t' := tk + 1) kept hf (Nat.le_refl _) new, rfl, ⟨_, x, rfl, I.hok.fresh (Nat.le_refl _), rfl, fun ys hy => by rw [I.tuple_inj hy hq]; exact hx⟩, ⟨⟨y, ?_⟩, hs'.1.at fun o q => (sb.2 it (Ne.symm hne)).trans q, hne⟩, fun b hb => ?_⟩
    · have e1 : ((i + 1 : Nat) : Int) = (i : Int) + 1 := by omega
      rw [e1]
      exact he'
    · have lt2 : b < s.heap.objs.size := by
        rcases List.mem_cons.mp hb with rfl | hb
        · exact hel
        · rw [List.mem_singleton.mp hb]; exact hil
      rw [upd_ne (Nat.ne_of_lt lt2)]
      exact (hf b hb).1
  done := by
    intro X hP hw hK hc i pins s σ H E I hf st hg
    subst hP hw hK
    obtain ⟨⟨old, he⟩, hit, hne⟩ := st
    obtain ⟨xs, hq, hx⟩ := hg
    obtain ⟨its, rv, tp, hz⟩ := I.tuple hq
    have hl := rv.length
    obtain ⟨nea, nit⟩ := enum_apart tp he hit
    have hh : X.A.in1.handled = none := I.ok.hd hc
    have ez : i = its.toArray.size := by simp; omega
    obtain ⟨f0, f1, f2, f3, f4, f5⟩ := hf it (by simp)
    refine wpAny_pyNext_enum_endD (Draws.tuple hh it a nit its.toArray) he (by rw [← ez]; exact ⟨hit, tp⟩) fun h' eb => ⟨rfl, I.turned (t' := s.toks) (fun b o hb q => eb b o hb q) f0 f1 f3 f4 f5⟩
  self := fun A i s Q E st h => let ⟨⟨_, he⟩, _⟩ := st; wpAny_pyIter_enum he h
def iEnumT (K : PySem.W.Frag) (ta : TA) : TI := fun σ H R => ta σ H fun vs H1 => ∃ a xs, vs = [.ref a] ∧ SqT K H1 a xs ∧ R (IteT K a) H1
theorem pi_enumT {X : Cx} {e : Expr} {ta : TA} {p pos tpos : Pos} {elts : List Expr} {kk : Nat} (hg : Gl X "enumerate") (hm : X.mg "enumerate" = none) (ha : PA X [e] ta) (hs : starEach [e] X.env = [(false, eval e X.env)]) :
    PI X (.Tuple elts kk tpos) (.Call (.Name "enumerate" p) [e] [] pos) (iEnumT X.K ta) := by
  refine ⟨fun pins s σ H R I h => ?_⟩
  refine Call_ (ld_blt I hg hm boot_enumerate (PyProof.Rows.callWith_type1 (thn (ha.run pos pins s σ H _ I h) fun us s1 ⟨vs, H1, I1, r1, a, xs, ex, hq, q⟩ => ?_) hs rfl))
  subst ex
  obtain ⟨u, rfl, r⟩ : ∃ u, us = [u] ∧ RelV (.ref a) u := by
    cases r1 with
    | cons r rr => cases rr; exact ⟨_, rfl, r⟩
  cases r
  obtain ⟨its, rv, tp, hz⟩ := I1.tuple hq
  have tp' : s1.heap.IsTuple a its.toArray := tp
  refine callType_new F.called_enumerate (by decide) (F.typeCall_enumerate_1 _) (F.newCall_enumerate_1 _) (fun obj => F.args_object_init_2 obj _) F.entry_enumerate_new (enum_meets (begins_tuple a its.toArray)) ⟨tp', ?_⟩
  obtain ⟨h2, e2⟩ : ∃ h2, h2 = s1.heap.push { cls := .type "tuple_iterator", data := .fields #[.ref a, .int 0 0] } := ⟨_, rfl⟩
  have z2 : h2.objs.size = s1.heap.objs.size + 1 := by rw [e2]; exact Heap.size_push ..
  show _ ∧ _
  rw [← e2]
  have at1 : h2.IsTupleIter s1.heap.objs.size a 0 := by rw [e2]; exact ⟨_, Heap.get?_push_size _ rfl, rfl, rfl⟩
  have he : IsEnum (h2.push { cls := .type "enumerate", data := .fields #[.none, .bool false, .ref s1.heap.objs.size, rawInt 0, .none, .none] }) h2.objs.size s1.heap.objs.size 0 .none := Heap.get?_push_size h2 rfl
  refine ⟨⟨_, he, rfl⟩, wpAny_pyIter_enum he ?_⟩
  have kept : ∀ b o, s1.heap.get? b = some o → (h2.push { cls := .type "enumerate", data := .fields #[.none, .bool false, .ref s1.heap.objs.size, rawInt 0, .none, .none] }).get? b = some o :=
    fun b o q => Heap.get?_push_of_some _ (by rw [e2]; exact Heap.get?_push_of_some _ q)
  refine ⟨h2.objs.size, [h2.objs.size, s1.heap.objs.size], _, _, H1, rfl, I1.kept (t' := s1.toks) kept, turn_enumT a h2.objs.size s1.heap.objs.size, ⟨⟨.none, he⟩, at1.at fun o q => Heap.get?_push_of_some _ q, by rw [z2]; exact Nat.succ_ne_self _⟩, fun b hb => ?_, q⟩
  have hle : s1.heap.objs.size ≤ b := by
    rcases List.mem_cons.mp hb with rfl | hb
    · rw [z2]; exact Nat.le_succ _
    · rw [List.mem_singleton.mp hb]; exact Nat.le_refl _
  exact I1.fpOk hle (I1.hok.fresh hle)
end Z

set_option maxRecDepth 100000
/-! Z12: what an expression is, told by the evaluation; its parts. -/
namespace Z
open PySem PySem.Spec PyProof.Rows
open L2

theorem PE_imp {X : Cx} {e : Expr} {t u : TE} (h : PE X e t) (k : ∀ σ H Q, u σ H Q → t σ H Q) : PE X e u := ⟨fun pins s σ H Q I q => h.run pins s σ H Q I (k _ _ _ q)⟩
theorem PT_imp {X : Cx} {e : Expr} {t u : TT} (h : PT X e t) (k : ∀ σ H Q, u σ H Q → t σ H Q) : PT X e u := ⟨fun pins s σ H Q I q => h.run pins s σ H Q I (k _ _ _ q)⟩
theorem PA_imp {X : Cx} {e : List Expr} {t u : TA} (h : PA X e t) (k : ∀ σ H Q, u σ H Q → t σ H Q) : PA X e u := ⟨fun pos pins s σ H Q I q => h.run pos pins s σ H Q I (k _ _ _ q)⟩
theorem PK_imp {X : Cx} {e : List Keyword} {t u : TA} (h : PK X e t) (k : ∀ σ H Q, u σ H Q → t σ H Q) : PK X e u := ⟨fun pos pins s σ H Q I q => h.run pos pins s σ H Q I (k _ _ _ q)⟩
theorem PS_imp {X : Cx} {e : Stmt} {t u : TS} (h : PS X e t) (k : ∀ D σ H, u D σ H → t D σ H) : PS X e u := ⟨fun pins s σ H D I q => h.run pins s σ H D I (k _ _ _ q)⟩
theorem PSs_imp {X : Cx} {e : List Stmt} {t u : TS} (h : PSs X e t) (k : ∀ D σ H, u D σ H → t D σ H) : PSs X e u := ⟨fun pins s σ H D I q => h.run pins s σ H D I (k _ _ _ q)⟩
theorem PI_imp {X : Cx} {tg e : Expr} {t u : TI} (h : PI X tg e t) (k : ∀ σ H R, u σ H R → t σ H R) : PI X tg e u := ⟨fun pins s σ H R I q => h.run pins s σ H R I (k _ _ _ q)⟩

theorem bind_ok {α β : Type} {r : Res α} {f : α → Hip → Res β} {b : β} {h' : Hip} (e : r.bind f = .ok b h') : ∃ a h1, r = .ok a h1 ∧ f a h1 = .ok b h' := by
  cases r with
  | ok a h1 => exact ⟨a, h1, rfl, e⟩
  | bad => cases e

section
variable (T : Tb)
/-- where the language stands: slots, heap -/
structure At (ι : List Addr) (ρ : Env) (h : Hip) (σ : L2.St) (H : Hp) : Prop where
  env : Env' T ι H ρ σ
  sim : Sim T ι h H
/-- an evaluation's reading -/
def De (f : Env → Hip → Res Val) : TE := fun σ H Q => ∃ ι ρ h v h', At T ι ρ h σ H ∧ f ρ h = .ok v h' ∧ Pst T ι H v h' Q
def PstA (ι : List Addr) (H : Hp) (vs : List Val) (h' : Hip) (Q : List V → Hp → Prop) : Prop := ∀ ι' H' Vs, Ext ι H ι' H' → Sim T ι' h' H' → Reps T ι' H' vs Vs → Q Vs H'
def Da (f : Env → Hip → Res (List Val)) : TA := fun σ H Q => ∃ ι ρ h vs h', At T ι ρ h σ H ∧ f ρ h = .ok vs h' ∧ PstA T ι H vs h' Q
/-- a test -/
def PstB (ι : List Addr) (H : Hp) (h' : Hip) (Q : Hp → Prop) : Prop := ∀ ι' H', Ext ι H ι' H' → Sim T ι' h' H' → Q H'
def Dt (f : Env → Hip → Res Val) : TT := fun σ H Q => ∃ ι ρ h b h', At T ι ρ h σ H ∧ f ρ h = .ok (.bl b) h' ∧ PstB T ι H h' (Q b)
end

section
variable {T : Tb} {ι ι' : List Addr} {ρ : Env} {h h1 h' : Hip} {σ : L2.St} {H H' : Hp}
theorem At.to (a : At T ι ρ h σ H) (e : Ext ι H ι' H') (s : Sim T ι' h' H') : At T ι' ρ h' σ H' := ⟨a.env.mono e, s⟩
theorem De.go {f : Env → Hip → Res Val} {x : Val} {Q : VK} (a : At T ι ρ h σ H) (e : f ρ h = .ok x h1)
    (k : ∀ ι1 H1 V, Ext ι H ι1 H1 → At T ι1 ρ h1 σ H1 → Rep T ι1 H1 x V → Q V H1) : De T f σ H Q := ⟨ι, ρ, h, x, h1, a, e, fun ι1 H1 V ex s r => k ι1 H1 V ex (a.to ex s) r⟩
theorem Da.go {f : Env → Hip → Res (List Val)} {x : List Val} {Q : List V → Hp → Prop} (a : At T ι ρ h σ H) (e : f ρ h = .ok x h1)
    (k : ∀ ι1 H1 V, Ext ι H ι1 H1 → At T ι1 ρ h1 σ H1 → Reps T ι1 H1 x V → Q V H1) : Da T f σ H Q := ⟨ι, ρ, h, x, h1, a, e, fun ι1 H1 V ex s r => k ι1 H1 V ex (a.to ex s) r⟩
theorem Dt.go {f : Env → Hip → Res Val} {b : Bool} {Q : Bool → Hp → Prop} (a : At T ι ρ h σ H) (e : f ρ h = .ok (.bl b) h1)
    (k : ∀ ι1 H1, Ext ι H ι1 H1 → At T ι1 ρ h1 σ H1 → Q b H1) : Dt T f σ H Q := ⟨ι, ρ, h, b, h1, a, e, fun ι1 H1 ex s => k ι1 H1 ex (a.to ex s)⟩

/-- a value as a test -/
theorem Dt.of {f : Env → Hip → Res Val} {Q : Bool → Hp → Prop} (d : Dt T f σ H Q) : tB (De T f) σ H Q := by
  obtain ⟨ι, ρ, h, b, h', a, e, q⟩ := d
  exact De.go a e fun ι1 H1 V ex a1 r => ⟨b, rep_bl r, q ι1 H1 ex a1.sim⟩
theorem Dt.ofT {f : Env → Hip → Res Val} {Q : Bool → Hp → Prop} (d : Dt T f σ H Q) : tTest (De T f) σ H Q := Dt.of d

/-! ### the forms -/
theorem d_var {i : Nat} {f : Env → Hip → Res Val} (hf : ∀ ρ h, f ρ h = match ρ[i]? with | some (some v) => .ok v h | _ => .bad) {Q : VK} (d : De T f σ H Q) : tVar i σ H Q := by
  obtain ⟨ι, ρ, h, v, h', a, e, q⟩ := d
  rw [hf] at e
  split at e
  · rename_i w ew
    cases e
    obtain ⟨u, eu, ru⟩ := a.env.at_ i _ ew
    exact ⟨u, eu, q.val a.sim ru⟩
  · cases e
theorem d_con {v : Val} {V : V} (hr : ∀ ι H, Rep T ι H v V) {f : Env → Hip → Res Val} (hf : ∀ ρ h, f ρ h = .ok v h) {Q : VK} (d : De T f σ H Q) : L2.tC V σ H Q := by
  obtain ⟨ι, ρ, h, w, h', a, e, q⟩ := d
  rw [hf] at e
  cases e
  exact q.val a.sim (hr _ _)
/-- two parts, then an operation -/
theorem d_op {f g p : Env → Hip → Res Val} {F : F2} (hp : ∀ ρ h, p ρ h = (f ρ h).bind fun x h => (g ρ h).bind fun y h => F x y h) {Q : VK} (d : De T p σ H Q) : tOp (rO2 T F) (De T f) (De T g) σ H Q := by
  obtain ⟨ι, ρ, h, v, h', a, e, q⟩ := d
  rw [hp] at e
  obtain ⟨x, h1, e1, e⟩ := bind_ok e
  obtain ⟨y, h2, e2, e⟩ := bind_ok e
  exact De.go a e1 fun ι1 H1 V1 x1 a1 r1 => De.go a1 e2 fun ι2 H2 V2 x2 a2 r2 => ⟨ι2, h2, x, y, v, h', a2.sim, r1.mono x2, r2, e, q.mono (x1.trans x2)⟩
theorem dt_op {f g p : Env → Hip → Res Val} {F : F2} (hp : ∀ ρ h, p ρ h = (f ρ h).bind fun x h => (g ρ h).bind fun y h => F x y h) {Q : Bool → Hp → Prop} (d : Dt T p σ H Q) : tTest (tOp (rO2 T F) (De T f) (De T g)) σ H Q :=
  d_op hp (Dt.ofT d)
theorem d_un {f p : Env → Hip → Res Val} {F : F1} (hp : ∀ ρ h, p ρ h = (f ρ h).bind fun x h => F x h) {Q : VK} (d : De T p σ H Q) : tUn (rO1 T F) (De T f) σ H Q := by
  obtain ⟨ι, ρ, h, v, h', a, e, q⟩ := d
  rw [hp] at e
  obtain ⟨x, h1, e1, e⟩ := bind_ok e
  exact De.go a e1 fun ι1 H1 V1 x1 a1 r1 => ⟨ι1, h1, x, v, h', a1.sim, r1, e, q.mono x1⟩
theorem d_chain {f g k p : Env → Hip → Res Val} {o o' : Cop} (hp : ∀ ρ h, p ρ h = (f ρ h).bind fun x h => (g ρ h).bind fun y h => match cmpOp o x y h with
    | some true => (k ρ h).bind fun z h => ok? (cmpOp o' y z h) .bl h
    | some false => .ok (.bl false) h
    | none => .bad) {Q : VK} (d : De T p σ H Q) : tChain (rO2 T (cmpF o)) (rO2 T (cmpF o')) (De T f) (De T g) (De T k) σ H Q := by
  obtain ⟨ι, ρ, h, v, h', a, e, q⟩ := d
  rw [hp] at e
  obtain ⟨x, h1, e1, e⟩ := bind_ok e
  obtain ⟨y, h2, e2, e⟩ := bind_ok e
  refine De.go a e1 fun ι1 H1 V1 x1 a1 r1 => De.go a1 e2 fun ι2 H2 V2 x2 a2 r2 => ?_
  have ec : ∃ b, cmpOp o x y h2 = some b := by
    cases ec : cmpOp o x y h2 with
    | none => rw [ec] at e; cases e
    | some b => exact ⟨b, rfl⟩
  obtain ⟨b, ec⟩ := ec
  refine ⟨ι2, h2, x, y, .bl b, h2, a2.sim, r1.mono x2, r2, by unfold cmpF; rw [ec]; rfl, fun ι3 H3 V3 x3 s3 r3 => ⟨b, rep_bl r3, ?_⟩⟩
  have a3 := a2.to x3 s3
  rw [ec] at e
  cases b with
  | false =>
    cases e
    exact q ι3 H3 _ ((x1.trans x2).trans x3) s3 (.bl false)
  | true =>
    obtain ⟨z, h4, e4, e⟩ := bind_ok e
    exact De.go a3 e4 fun ι4 H4 V4 x4 a4 r4 => ⟨ι4, h4, y, z, v, h', a4.sim, (r2.mono x3).mono x4, r4, e, q.mono (((x1.trans x2).trans x3).trans x4)⟩
theorem dt_chain {f g k p : Env → Hip → Res Val} {o o' : Cop} (hp : ∀ ρ h, p ρ h = (f ρ h).bind fun x h => (g ρ h).bind fun y h => match cmpOp o x y h with
    | some true => (k ρ h).bind fun z h => ok? (cmpOp o' y z h) .bl h
    | some false => .ok (.bl false) h
    | none => .bad) {Q : Bool → Hp → Prop} (d : Dt T p σ H Q) : tTest (tChain (rO2 T (cmpF o)) (rO2 T (cmpF o')) (De T f) (De T g) (De T k)) σ H Q := d_chain hp (Dt.ofT d)
theorem d_and {f g p : Env → Hip → Res Val} (hp : ∀ ρ h, p ρ h = (f ρ h).bind fun x h => match x with | .bl true => g ρ h | .bl false => .ok (.bl false) h | _ => .bad) {Q : VK} (d : De T p σ H Q) : tAndV (De T f) (De T g) σ H Q := by
  obtain ⟨ι, ρ, h, v, h', a, e, q⟩ := d
  rw [hp] at e
  obtain ⟨x, h1, e1, e⟩ := bind_ok e
  refine De.go a e1 fun ι1 H1 V1 x1 a1 r1 => ?_
  split at e
  · exact ⟨true, rep_bl r1, De.go a1 e fun ι2 H2 V2 x2 a2 r2 => q ι2 H2 V2 (x1.trans x2) a2.sim r2⟩
  · cases e; exact ⟨false, rep_bl r1, q ι1 H1 _ x1 a1.sim (.bl false)⟩
  · cases e
theorem d_or {f g p : Env → Hip → Res Val} (hp : ∀ ρ h, p ρ h = (f ρ h).bind fun x h => match x with | .bl false => g ρ h | .bl true => .ok (.bl true) h | _ => .bad) {Q : VK} (d : De T p σ H Q) : tOrV (De T f) (De T g) σ H Q := by
  obtain ⟨ι, ρ, h, v, h', a, e, q⟩ := d
  rw [hp] at e
  obtain ⟨x, h1, e1, e⟩ := bind_ok e
  refine De.go a e1 fun ι1 H1 V1 x1 a1 r1 => ?_
  split at e
  · exact ⟨false, rep_bl r1, De.go a1 e fun ι2 H2 V2 x2 a2 r2 => q ι2 H2 V2 (x1.trans x2) a2.sim r2⟩
  · cases e; exact ⟨true, rep_bl r1, q ι1 H1 _ x1 a1.sim (.bl true)⟩
  · cases e
theorem d_not {f p : Env → Hip → Res Val} (hp : ∀ ρ h, p ρ h = (f ρ h).bind fun x h => match x with | .bl b => .ok (.bl (!b)) h | _ => .bad) {Q : VK} (d : De T p σ H Q) : tNotV (De T f) σ H Q := by
  obtain ⟨ι, ρ, h, v, h', a, e, q⟩ := d
  rw [hp] at e
  obtain ⟨x, h1, e1, e⟩ := bind_ok e
  refine De.go a e1 fun ι1 H1 V1 x1 a1 r1 => ?_
  split at e
  · cases e; exact ⟨_, rep_bl r1, q ι1 H1 _ x1 a1.sim (.bl _)⟩
  · cases e
theorem dt_and {f g p : Env → Hip → Res Val} (hp : ∀ ρ h, p ρ h = (f ρ h).bind fun x h => match x with | .bl true => g ρ h | .bl false => .ok (.bl false) h | _ => .bad) {Q : Bool → Hp → Prop} (d : Dt T p σ H Q) : tAnd (Dt T f) (Dt T g) σ H Q := by
  obtain ⟨ι, ρ, h, b, h', a, e, q⟩ := d
  rw [hp] at e
  obtain ⟨x, h1, e1, e⟩ := bind_ok e
  split at e
  · exact Dt.go a e1 fun ι1 H1 x1 a1 => Dt.go a1 e fun ι2 H2 x2 a2 => q ι2 H2 (x1.trans x2) a2.sim
  · cases e; exact Dt.go a e1 fun ι1 H1 x1 a1 => q ι1 H1 x1 a1.sim
  · cases e
theorem dt_or {f g p : Env → Hip → Res Val} (hp : ∀ ρ h, p ρ h = (f ρ h).bind fun x h => match x with | .bl false => g ρ h | .bl true => .ok (.bl true) h | _ => .bad) {Q : Bool → Hp → Prop} (d : Dt T p σ H Q) : tOr (Dt T f) (Dt T g) σ H Q := by
  obtain ⟨ι, ρ, h, b, h', a, e, q⟩ := d
  rw [hp] at e
  obtain ⟨x, h1, e1, e⟩ := bind_ok e
  split at e
  · exact Dt.go a e1 fun ι1 H1 x1 a1 => Dt.go a1 e fun ι2 H2 x2 a2 => q ι2 H2 (x1.trans x2) a2.sim
  · cases e; exact Dt.go a e1 fun ι1 H1 x1 a1 => q ι1 H1 x1 a1.sim
  · cases e
theorem dt_not {f p : Env → Hip → Res Val} (hp : ∀ ρ h, p ρ h = (f ρ h).bind fun x h => match x with | .bl b => .ok (.bl (!b)) h | _ => .bad) {Q : Bool → Hp → Prop} (d : Dt T p σ H Q) : tNot (Dt T f) σ H Q := by
  obtain ⟨ι, ρ, h, b, h', a, e, q⟩ := d
  rw [hp] at e
  obtain ⟨x, h1, e1, e⟩ := bind_ok e
  split at e
  · cases e; exact Dt.go a e1 fun ι1 H1 x1 a1 => q ι1 H1 x1 a1.sim
  · cases e
theorem d_ite {c f g p : Env → Hip → Res Val} (hp : ∀ ρ h, p ρ h = (c ρ h).bind fun x h => match x with | .bl true => f ρ h | .bl false => g ρ h | _ => .bad) {Q : VK} (d : De T p σ H Q) : tIf (Dt T c) (De T f) (De T g) σ H Q := by
  obtain ⟨ι, ρ, h, v, h', a, e, q⟩ := d
  rw [hp] at e
  obtain ⟨x, h1, e1, e⟩ := bind_ok e
  split at e
  · exact Dt.go a e1 fun ι1 H1 x1 a1 => De.go a1 e fun ι2 H2 V2 x2 a2 r2 => q ι2 H2 V2 (x1.trans x2) a2.sim r2
  · exact Dt.go a e1 fun ι1 H1 x1 a1 => De.go a1 e fun ι2 H2 V2 x2 a2 r2 => q ι2 H2 V2 (x1.trans x2) a2.sim r2
  · cases e
/-- a test of a value that is a test of three parts -/
theorem dt_ite {c f g p : Env → Hip → Res Val} (hp : ∀ ρ h, p ρ h = (c ρ h).bind fun x h => match x with | .bl true => f ρ h | .bl false => g ρ h | _ => .bad) {Q : Bool → Hp → Prop} (d : Dt T p σ H Q) :
    Dt T c σ H fun b H1 => if b = true then Dt T f σ H1 Q else Dt T g σ H1 Q := by
  obtain ⟨ι, ρ, h, b, h', a, e, q⟩ := d
  rw [hp] at e
  obtain ⟨x, h1, e1, e⟩ := bind_ok e
  split at e
  · exact Dt.go a e1 fun ι1 H1 x1 a1 => Dt.go a1 e fun ι2 H2 x2 a2 => q ι2 H2 (x1.trans x2) a2.sim
  · exact Dt.go a e1 fun ι1 H1 x1 a1 => Dt.go a1 e fun ι2 H2 x2 a2 => q ι2 H2 (x1.trans x2) a2.sim
  · cases e
/-! lists of arguments -/
theorem d_nil {p : Env → Hip → Res (List Val)} (hp : ∀ ρ h, p ρ h = .ok [] h) {Q : List V → Hp → Prop} (d : Da T p σ H Q) : tNil σ H Q := by
  obtain ⟨ι, ρ, h, v, h', a, e, q⟩ := d
  rw [hp] at e
  cases e
  exact q ι H _ .refl a.sim .nil
theorem d_cons {f : Env → Hip → Res Val} {g p : Env → Hip → Res (List Val)} (hp : ∀ ρ h, p ρ h = (f ρ h).bind fun v h => (g ρ h).bind fun vs h => .ok (v :: vs) h) {Q : List V → Hp → Prop} (d : Da T p σ H Q) : tCons (De T f) (Da T g) σ H Q := by
  obtain ⟨ι, ρ, h, v, h', a, e, q⟩ := d
  rw [hp] at e
  obtain ⟨x, h1, e1, e⟩ := bind_ok e
  obtain ⟨xs, h2, e2, e⟩ := bind_ok e
  cases e
  exact De.go a e1 fun ι1 H1 V1 x1 a1 r1 => Da.go a1 e2 fun ι2 H2 V2 x2 a2 r2 => q ι2 H2 _ (x1.trans x2) a2.sim (.cons (r1.mono x2) r2)
theorem d_tup {f : Env → Hip → Res (List Val)} {p : Env → Hip → Res Val} (hp : ∀ ρ h, p ρ h = (f ρ h).bind fun vs h => if fits vs.length then .ok (.tup vs) h else .bad) {Q : VK} (d : De T p σ H Q) : tTup (Da T f) σ H Q := by
  obtain ⟨ι, ρ, h, v, h', a, e, q⟩ := d
  rw [hp] at e
  obtain ⟨x, h1, e1, e⟩ := bind_ok e
  split at e
  · rename_i hl
    cases e
    exact Da.go a e1 fun ι1 H1 V1 x1 a1 r1 => ⟨by rw [← r1.length]; exact Nat.le_of_lt (SZ_le hl), fun p hp => (q.mono x1).tup a1.sim r1 hp⟩
  · cases e
theorem d_lst {f : Env → Hip → Res (List Val)} {p : Env → Hip → Res Val} (hp : ∀ ρ h, p ρ h = (f ρ h).bind fun vs h => if fits vs.length then alloc (.lst vs) h else .bad) {Q : VK} (d : De T p σ H Q) : tLst (Da T f) σ H Q := by
  obtain ⟨ι, ρ, h, v, h', a, e, q⟩ := d
  rw [hp] at e
  obtain ⟨x, h1, e1, e⟩ := bind_ok e
  split at e
  · rename_i hl
    cases e
    exact Da.go a e1 fun ι1 H1 V1 x1 a1 r1 => ⟨by rw [← r1.length]; exact Nat.le_of_lt (SZ_le hl), fun p hp => (q.mono x1).lst a1.sim r1 hp⟩
  · cases e
/-- a call by values -/
theorem d_callN {f : Env → Hip → Res (List Val)} {p : Env → Hip → Res Val} {F : FN} (hp : ∀ ρ h, p ρ h = (f ρ h).bind fun vs h => F vs h) {Q : VK} (d : De T p σ H Q) : Da T f σ H (fun vs H1 => rON T F vs H1 Q) := by
  obtain ⟨ι, ρ, h, v, h', a, e, q⟩ := d
  rw [hp] at e
  obtain ⟨x, h1, e1, e⟩ := bind_ok e
  exact Da.go a e1 fun ι1 H1 V1 x1 a1 r1 => ⟨ι1, h1, x, v, h', a1.sim, r1, e, q.mono x1⟩
end
end Z

set_option maxRecDepth 100000
/-! Z13: more forms: displays of dicts, slices, methods, new instances, attributes, ranges. -/
namespace Z
open PySem PySem.Spec PyProof.Rows
open L2

section
variable {T : Tb} {ι ι' : List Addr} {ρ : Env} {h h1 h' : Hip} {σ : L2.St} {H H' : Hp}

/-! slices -/
/-- a slice's bound -/
def Do (T : Tb) (f : Env → Hip → Res (Option Val)) : TO := fun σ H Q => ∃ ι ρ h v l h', At T ι ρ h σ H ∧ f ρ h = .ok v h' ∧ partI v = some l ∧ PstB T ι H h' (Q l)
theorem Do.go {f : Env → Hip → Res (Option Val)} {v : Option Val} {l : Option Int} {Q : Option Int → Hp → Prop} (a : At T ι ρ h σ H) (e : f ρ h = .ok v h1) (hl : partI v = some l)
    (k : ∀ ι1 H1, Ext ι H ι1 H1 → At T ι1 ρ h1 σ H1 → Q l H1) : Do T f σ H Q := ⟨ι, ρ, h, v, l, h1, a, e, hl, fun ι1 H1 ex s => k ι1 H1 ex (a.to ex s)⟩
theorem do_no {f : Env → Hip → Res (Option Val)} (hf : ∀ ρ h, f ρ h = .ok none h) {Q : Option Int → Hp → Prop} (d : Do T f σ H Q) : tNoPart σ H Q := by
  obtain ⟨ι, ρ, h, v, l, h', a, e, hl, q⟩ := d
  rw [hf] at e
  cases e
  cases hl
  exact q ι H .refl a.sim
theorem do_so {f : Env → Hip → Res (Option Val)} {g : Env → Hip → Res Val} (hf : ∀ ρ h, f ρ h = (g ρ h).bind fun v h => .ok (some v) h) {Q : Option Int → Hp → Prop} (d : Do T f σ H Q) : tPart (De T g) σ H Q := by
  obtain ⟨ι, ρ, h, v, l, h', a, e, hl, q⟩ := d
  rw [hf] at e
  obtain ⟨x, h1, e1, e⟩ := bind_ok e
  cases e
  have : ∃ i, x = .int i ∧ l = some i := by
    cases x <;> first | (cases hl; done) | exact ⟨_, rfl, (Option.some.inj hl).symm⟩
  obtain ⟨i, rfl, rfl⟩ := this
  exact De.go a e1 fun ι1 H1 V1 x1 a1 r1 => ⟨i, rep_int r1, q ι1 H1 x1 a1.sim⟩
theorem part_map {v : Option Val} {l : Option Int} (h : partI v = some l) : v = l.map .int := by
  cases v with
  | none => cases h; rfl
  | some x => cases x <;> first | (cases h; done) | (cases h; rfl)
theorem d_sl {f p : Env → Hip → Res Val} {g k : Env → Hip → Res (Option Val)} (hp : ∀ ρ h, p ρ h = (f ρ h).bind fun x h => (g ρ h).bind fun l h => (k ρ h).bind fun u h => slOp x l u h) {Q : VK} (d : De T p σ H Q) : tSl (rSl T) (De T f) (Do T g) (Do T k) σ H Q := by
  obtain ⟨ι, ρ, h, v, h', a, e, q⟩ := d
  rw [hp] at e
  obtain ⟨x, h1, e1, e⟩ := bind_ok e
  obtain ⟨l, h2, e2, e⟩ := bind_ok e
  obtain ⟨u, h3, e3, e⟩ := bind_ok e
  have el : ∃ l', partI l = some l' := by
    cases z : partI l with
    | none => unfold slOp at e; rw [z] at e; cases e
    | some l' => exact ⟨l', rfl⟩
  obtain ⟨l', el⟩ := el
  have eu : ∃ u', partI u = some u' := by
    cases z : partI u with
    | none => unfold slOp at e; rw [el, z] at e; cases e
    | some u' => exact ⟨u', rfl⟩
  obtain ⟨u', eu⟩ := eu
  rw [part_map el, part_map eu] at e
  exact De.go a e1 fun ι1 H1 V1 x1 a1 r1 => Do.go a1 e2 el fun ι2 H2 x2 a2 => Do.go a2 e3 eu fun ι3 H3 x3 a3 => ⟨ι3, h3, x, v, h', a3.sim, (r1.mono x2).mono x3, e, q.mono ((x1.trans x2).trans x3)⟩

/-! a display of a dict -/
/-- the pairs' readings -/
def keyV : Val → V
  | .int i => .int i
  | .str s => .str s
  | _ => .non
theorem key1_kV {x : Val} {k : L2.Key} (e : key1? x = some k) : kV k = keyV x := by
  cases x <;> first | (cases e; done) | (cases e; rfl)
theorem putK_new {r : List (L2.Key × V)} {k : L2.Key} {v : V} (h : k ∉ r.map (·.1)) : putK r k v = r ++ [(k, v)] := by
  unfold putK
  rw [if_neg]
  intro z
  obtain ⟨p, hp, e⟩ := List.any_eq_true.mp z
  exact h (List.mem_map.mpr ⟨p, hp, of_decide_eq_true e⟩)
theorem mergeK_new : ∀ (more acc : List (L2.Key × V)), ((acc ++ more).map (·.1)).Nodup → mergeK acc more = acc ++ more
  | [], acc, _ => by rw [List.append_nil]; rfl
  | p :: r, acc, h => by
    have h2 : ((acc ++ [p]) ++ r) = acc ++ p :: r := by simp
    show mergeK (putK acc p.1 p.2) r = acc ++ p :: r
    have np : p.1 ∉ acc.map (·.1) := by
      rw [List.map_append, List.map_cons, List.nodup_append] at h
      exact fun z => h.2.2 _ z _ (List.mem_cons_self) rfl
    rw [putK_new np, ← h2]
    exact mergeK_new r (acc ++ [p]) (by rw [h2]; exact h)
theorem keys_all : ∀ {ks : List Val}, ks.all isKey1 = true → ∃ qs : List L2.Key, ks.map key1? = qs.map some
  | [], _ => ⟨[], rfl⟩
  | k :: ks, h => by
    rw [List.all_cons, Bool.and_eq_true] at h
    obtain ⟨q, e⟩ := isKey1_some h.1
    obtain ⟨qs, e2⟩ := keys_all h.2
    exact ⟨q :: qs, by rw [List.map_cons, List.map_cons, e, e2]⟩
theorem keys_nodup : ∀ {ks : List Val} {qs : List L2.Key}, ks.map key1? = qs.map some → ks.Nodup → qs.Nodup
  | [], [], _, _ => List.nodup_nil
  | [], _ :: _, e, _ => by cases e
  | _ :: _, [], e, _ => by cases e
  | k :: ks, q :: qs, e, h => by
    rw [List.map_cons, List.map_cons] at e
    injection e with e1 e2
    have h := List.nodup_cons.mp h
    refine List.nodup_cons.mpr ⟨fun z => h.1 ?_, keys_nodup e2 h.2⟩
    have : some q ∈ ks.map key1? := by rw [e2]; exact List.mem_map.mpr ⟨q, z, rfl⟩
    obtain ⟨y, hy, ey⟩ := List.mem_map.mp this
    rw [key1_inj e1 ey]
    exact hy
theorem zip_keys : ∀ {ks : List Val} {qs : List L2.Key} {Vs : List V}, ks.map key1? = qs.map some → (ks.map keyV).zip Vs = (qs.zip Vs).map fun kv => (kV kv.1, kv.2)
  | [], [], _, _ => by simp
  | [], _ :: _, _, e => by cases e
  | _ :: _, [], _, e => by cases e
  | k :: ks, q :: qs, [], e => by simp
  | k :: ks, q :: qs, v :: Vs, e => by
    rw [List.map_cons, List.map_cons] at e
    injection e with e1 e2
    rw [List.map_cons, List.zip_cons_cons, List.zip_cons_cons, List.map_cons, zip_keys e2, ← key1_kV e1]
theorem zip_rep : ∀ {ks : List Val} {qs : List L2.Key} {vs : List Val} {Vs : List V}, ks.map key1? = qs.map some → Reps T ι H vs Vs → RepK key1? T ι H (ks.zip vs) (qs.zip Vs)
  | [], [], _, _, _, _ => by simp; exact .nil
  | [], _ :: _, _, _, e, _ => by cases e
  | _ :: _, [], _, _, e, _ => by cases e
  | k :: ks, q :: qs, _, _, e, .nil => by simp; exact .nil
  | k :: ks, q :: qs, _, _, e, .cons r t => by
    rw [List.map_cons, List.map_cons] at e
    injection e with e1 e2
    rw [List.zip_cons_cons, List.zip_cons_cons]
    exact .cons e1 r (zip_rep e2 t)
/-- the readings of a display -/
def trsOf (T : Tb) (P : Pg) (cf : CF) : List Val → IEs → List (TE × TE)
  | k :: ks, .cons e es => (L2.tC (keyV k), De T (evE P cf e)) :: trsOf T P cf ks es
  | _, _ => []
theorem d_pairs {P : Pg} {cf : CF} : ∀ {ks : List Val} {es : IEs} {ι : List Addr} {ρ : Env} {h : Hip} {H : Hp} {vs : List Val} {h' : Hip} {Q : List (V × V) → Hp → Prop}, At T ι ρ h σ H → evEs P cf es ρ h = .ok vs h' → ks.length = vs.length →
    (∀ ι' H' Vs, Ext ι H ι' H' → At T ι' ρ h' σ H' → Reps T ι' H' vs Vs → Q ((ks.map keyV).zip Vs) H') → tPairs (trsOf T P cf ks es) σ H Q
  | [], .nil, ι, ρ, h, H, vs, h', Q, a, e, hl, k => by
    cases e
    exact k ι H [] .refl a .nil
  | [], .cons e es, ι, ρ, h, H, vs, h', Q, a, ev, hl, k => by
    obtain ⟨x, h1, e1, ev⟩ := bind_ok (show (evE P cf e ρ h).bind _ = _ from ev)
    obtain ⟨xs, h2, e2, ev⟩ := bind_ok ev
    cases ev
    cases hl
  | _ :: _, .nil, ι, ρ, h, H, vs, h', Q, a, e, hl, k => by cases e; cases hl
  | y :: ks, .cons e es, ι, ρ, h, H, vs, h', Q, a, ev, hl, k => by
    obtain ⟨x, h1, e1, ev⟩ := bind_ok (show (evE P cf e ρ h).bind _ = _ from ev)
    obtain ⟨xs, h2, e2, ev⟩ := bind_ok ev
    cases ev
    show De T (evE P cf e) σ H fun V H2 => tPairs (trsOf T P cf ks es) σ H2 fun ps H3 => Q ((keyV y, V) :: ps) H3
    refine De.go a e1 fun ι1 H1 V1 x1 a1 r1 => d_pairs a1 e2 (by simpa using hl) fun ι2 H2 Vs x2 a2 r2 => ?_
    exact k ι2 H2 (V1 :: Vs) (x1.trans x2) a2 (.cons (r1.mono x2) r2)
theorem d_dct {P : Pg} {cf : CF} {ks : List Val} {es : IEs} (h15 : ks.length ≤ 15) {Q : VK} (d : De T (evE P cf (.dct ks es)) σ H Q) : tDisp (trsOf T P cf ks es) σ H Q := by
  obtain ⟨ι, ρ, h, v, h', a, e, q⟩ := d
  obtain ⟨vs, h1, e1, e⟩ := bind_ok (show (evEs P cf es ρ h).bind _ = _ from e)
  split at e
  case isFalse => cases e
  rename_i hc
  simp only [Bool.and_eq_true, decide_eq_true_eq] at hc
  obtain ⟨⟨c1, c2⟩, c3⟩ := hc
  cases e
  obtain ⟨qs, eq⟩ := keys_all c1
  intro p hp
  have a0 : At T ι ρ h σ (upd H p (.dK [])) := a.to (Ext.laid hp) (a.sim.laid hp)
  refine d_pairs a0 e1 c3 fun ι' H' Vs x1 a1 r1 => ?_
  have np0 : p ∉ ι := a.sim.notin hp
  have hp1 : H' p = some (.dK []) := x1.keep p _ upd_same (.inl np0)
  have np : p ∉ ι' := fun m => by
    have := x1.fresh p m np0
    rw [upd_same] at this
    cases this
  have lq : ks.length = qs.length := by have := congrArg List.length eq; simpa using this
  have nd : ((qs.zip Vs).map (·.1)).Nodup := by
    have := keys_nodup eq c2
    have lv : qs.length ≤ Vs.length := by rw [← r1.length, ← c3, lq]; exact Nat.le_refl _
    have e2 : (qs.zip Vs).map (·.1) = qs := List.map_fst_zip lv
    rw [e2]; exact this
  refine ⟨hp1, qs.zip Vs, zip_keys eq, ?_, ?_⟩
  · rw [List.length_zip]; omega
  · rw [mergeK_new (qs.zip Vs) [] (by simpa using nd), List.nil_append]
    have hm : ∀ o, H' p = some o → Mut (some o) := fun o e => by rw [hp1] at e; cases e; exact True.intro
    have z0 : Ext0 ι' H' (ι' ++ [p]) (upd H' p (.dK (qs.zip Vs))) := Ext0.push hm
    have s2 := a1.sim.push0 (u := .dK (qs.zip Vs)) (o := .dct (ks.zip vs)) np hm (.dK upd_same ((zip_rep eq r1).mono0 z0))
    refine q _ _ _ ⟨x1.pre.trans (List.prefix_append _ _), fun b o e c => ?_, fun b m n => ?_⟩ s2 (.ref ?_)
    · have nb : b ≠ p := fun z => by rw [z, hp] at e; cases e
      rw [upd_ne nb]
      exact x1.keep b o (by rw [upd_ne nb]; exact e) c
    · rcases List.mem_append.mp m with m | m
      · have := x1.fresh b m n
        by_cases nb : b = p
        · rw [nb]; exact hp
        · rw [upd_ne nb] at this; exact this
      · rw [List.mem_singleton.mp m]; exact hp
    · rw [a1.sim.len]; exact new_get ι' p

/-! calls with keywords; methods; new instances; attributes -/
theorem Reps.permute' {vs : List Val} {Vs : List V} (r : Reps T ι H vs Vs) : ∀ perm : List Nat, Reps T ι H (permute perm vs) (perm.filterMap (Vs[·]?))
  | [] => .nil
  | i :: is => by
    unfold Z.permute
    have ih : Reps T ι H (is.filterMap (vs[·]?)) (is.filterMap (Vs[·]?)) := r.permute' is
    cases e : vs[i]? with
    | none =>
      have e2 : Vs[i]? = none := by
        rw [List.getElem?_eq_none_iff] at e ⊢
        rw [← r.length]; exact e
      rw [List.filterMap_cons_none e, List.filterMap_cons_none e2]
      exact ih
    | some x =>
      obtain ⟨V, e2, r1⟩ := r.get e
      rw [List.filterMap_cons_some e, List.filterMap_cons_some e2]
      exact .cons r1 ih
def IEs.len : IEs → Nat
  | .nil => 0
  | .cons _ es => es.len + 1
theorem evEs_len {P : Pg} {cf : CF} : ∀ {es : IEs} {ρ : Env} {h : Hip} {vs : List Val} {h' : Hip}, evEs P cf es ρ h = .ok vs h' → vs.length = es.len
  | .nil, _, _, _, _, e => by cases e; rfl
  | .cons x es, ρ, h, vs, h', e => by
    obtain ⟨v, h1, e1, e⟩ := bind_ok (show (evE P cf x ρ h).bind _ = _ from e)
    obtain ⟨us, h2, e2, e⟩ := bind_ok e
    cases e
    show us.length + 1 = es.len + 1
    rw [evEs_len e2]
theorem d_callK {P : Pg} {cf : CF} {es : IEs} {n : Nat} {p : Env → Hip → Res Val} {F : FN} {perm : List Nat} (hn : es.len = n) (hp : ∀ ρ h, p ρ h = (evEs P cf es ρ h).bind fun vs h => F (permute perm vs) h) {Q : VK} (d : De T p σ H Q) :
    tCK (rON T F) n perm (Da T (evEs P cf es)) σ H Q := by
  obtain ⟨ι, ρ, h, v, h', a, e, q⟩ := d
  rw [hp] at e
  obtain ⟨x, h1, e1, e⟩ := bind_ok e
  exact Da.go a e1 fun ι1 H1 V1 x1 a1 r1 => ⟨by rw [← r1.length, evEs_len e1, hn], ι1, h1, permute perm x, v, h', a1.sim, r1.permute' perm, e, q.mono x1⟩
theorem repF_none {fs : List (Nat × Val)} {gs : List (Str × V)} {f : Nat} (r : RepF T ι H fs gs) : fget f fs = none → gs.lookup (T.nm f) = none := by
  induction r with
  | nil => exact fun _ => rfl
  | @cons g x v fs gs r1 r2 ih =>
    intro e
    unfold fget at e
    split at e
    · cases e
    · rename_i ne
      rw [List.lookup_cons]
      have : (T.nm f == T.nm g) = false := by
        cases z : T.nm f == T.nm g with
        | false => rfl
        | true => exact absurd (T.inj _ _ (eq_of_beq z)).symm ne
      rw [this]
      exact ih e
theorem repF_some {fs : List (Nat × Val)} {gs : List (Str × V)} {f : Nat} {x : Val} (r : RepF T ι H fs gs) : fget f fs = some x → ∃ v, gs.lookup (T.nm f) = some v ∧ Rep T ι H x v := by
  induction r with
  | nil => exact fun e => by cases e
  | @cons g y v fs gs r1 r2 ih =>
    intro e
    unfold fget at e
    rw [List.lookup_cons]
    split at e
    · rename_i eq
      cases e
      subst eq
      rw [beq_self_eq_true]
      exact ⟨v, rfl, r1⟩
    · rename_i ne
      have : (T.nm f == T.nm g) = false := by
        cases z : T.nm f == T.nm g with
        | false => rfl
        | true => exact absurd (T.inj _ _ (eq_of_beq z)).symm ne
      rw [this]
      exact ih e
theorem repF_put {fs : List (Nat × Val)} {gs : List (Str × V)} {f : Nat} {x : Val} {v : V} (r : RepF T ι H fs gs) (rx : Rep T ι H x v) : RepF T ι H (fput f x fs) (putF (T.nm f) v gs) := by
  induction r with
  | nil => exact .cons rx .nil
  | @cons g y w fs gs r1 r2 ih =>
    unfold fput putF
    by_cases e : g = f
    · subst e
      rw [if_pos rfl, if_pos rfl]
      exact .cons rx r2
    · rw [if_neg e, if_neg fun z => e (T.inj _ _ z)]
      exact .cons r1 ih
theorem repF_length {fs : List (Nat × Val)} {gs : List (Str × V)} (r : RepF T ι H fs gs) : fs.length = gs.length := by
  induction r with
  | nil => rfl
  | cons _ _ ih => simp [ih]
theorem sim_ins (s : Sim T ι h H) {i : Nat} {x : V} {c : Nat} {fs : List (Nat × Val)} (r : Rep T ι H (.ref i) x) (e : h[i]? = some (.ins c fs)) :
    ∃ a C dx gs, x = .ref a ∧ ι[i]? = some a ∧ H a = some (.ins C dx gs) ∧ T.cl c = some C ∧ RepF T ι H fs gs := by
  obtain ⟨a, rfl, q⟩ := rep_ref r
  cases s.at q e with
  | ins e1 e2 e3 => exact ⟨a, _, _, _, rfl, q, e1, e2, e3⟩
theorem d_fld {P : Pg} {K : PySem.W.Frag} {f p : Env → Hip → Res Val} {n : Nat} (hp : ∀ ρ h, p ρ h = (f ρ h).bind fun x h => match x with
      | .ref a => match h[a]? with
        | some (.ins c fs) => if P.fo c n then ok? (fget n fs) id h else .bad
        | _ => .bad
      | _ => .bad) (ob : ∀ c C, T.cl c = some C → Cls K C) (fo : ∀ c C f, T.cl c = some C → P.fo c f = true → NoAttr K C (T.nm f)) {Q : VK} (d : De T p σ H Q) : tFld K (De T f) (T.nm n) σ H Q := by
  obtain ⟨ι, ρ, h, v, h', a, e, q⟩ := d
  rw [hp] at e
  obtain ⟨x, h1, e1, e⟩ := bind_ok e
  refine De.go a e1 fun ι1 H1 V1 x1 a1 r1 => ?_
  split at e
  case h_2 => cases e
  split at e
  case h_2 => cases e
  rename_i i c fs ei
  split at e
  case isFalse => cases e
  rename_i hf
  obtain ⟨w, ew, rfl, rfl⟩ := ok?_ok e
  obtain ⟨b, C, dx, gs, rfl, eb, eH, ec, rf⟩ := sim_ins a1.sim r1 ei
  obtain ⟨u, eu, ru⟩ := repF_some rf ew
  exact ⟨b, C, dx, gs, u, rfl, eH, ob c C ec, fo c C n ec hf, eu, q ι1 H1 u x1 a1.sim ru⟩
theorem d_meth {P : Pg} {X : Cx} {cf : CF} {f p : Env → Hip → Res Val} {g : Env → Hip → Res (List Val)} {m : Nat} (hp : ∀ ρ h, p ρ h = (f ρ h).bind fun x h => match x with
      | .ref a => match h[a]? with
        | some (.ins c fs) => match P.mt c m, fget m fs with
          | some f, none => (g ρ h).bind fun vs h => cf f (.ref a :: vs) h
          | _, _ => .bad
        | _ => .bad
      | _ => .bad) (ob : ∀ c C, T.cl c = some C → Cls X.K C) (mt : ∀ c C m f, T.cl c = some C → P.mt c m = some f → MOk X C (T.nm m) (rON T (cf f))) {Q : VK} (d : De T p σ H Q) : tMd X (T.nm m) (De T f) (Da T g) σ H Q := by
  obtain ⟨ι, ρ, h, v, h', a, e, q⟩ := d
  rw [hp] at e
  obtain ⟨x, h1, e1, e⟩ := bind_ok e
  refine De.go a e1 fun ι1 H1 V1 x1 a1 r1 => ?_
  split at e
  case h_2 => cases e
  split at e
  case h_2 => cases e
  rename_i i _ c fs ei
  split at e
  case h_2 => cases e
  rename_i k em en
  obtain ⟨vs, h2, e2, e⟩ := bind_ok e
  obtain ⟨b, C, dx, gs, rfl, eb, eH, ec, rf⟩ := sim_ins a1.sim r1 ei
  refine ⟨b, C, dx, gs, _, rfl, eH, repF_none rf en, ob c C ec, mt c C m k ec em, ?_⟩
  exact Da.go a1 e2 fun ι2 H2 V2 x2 a2 r2 => ⟨ι2, h2, .ref i :: vs, v, h', a2.sim, .cons (r1.mono x2) r2, e, q.mono (x1.trans x2)⟩
theorem d_make {cf : CF} {p : Env → Hip → Res Val} {g : Env → Hip → Res (List Val)} {c f : Nat} {C : Addr} (hp : ∀ ρ h, p ρ h = (g ρ h).bind fun vs h => match cf f (.ref h.length :: vs) (h ++ [.ins c []]) with
      | .ok .non h' => .ok (.ref h.length) h'
      | _ => .bad) (hc : T.cl c = some C) {Q : VK} (d : De T p σ H Q) : tMk C (rON T (cf f)) (Da T g) σ H Q := by
  obtain ⟨ι, ρ, h, v, h', a, e, q⟩ := d
  rw [hp] at e
  obtain ⟨vs, h1, e1, e⟩ := bind_ok e
  refine Da.go a e1 fun ι1 H1 V1 x1 a1 r1 => ?_
  split at e
  case h_2 => cases e
  rename_i h2 e2
  cases e
  intro x dx hx hdx ne
  have s1 := a1.sim.laid (u := .own x) hdx
  have y1 : Ext ι1 H1 ι1 (upd H1 dx (.own x)) := Ext.laid hdx
  have hx2 : (upd H1 dx (.own x)) x = none := by rw [upd_ne ne.symm]; exact hx
  have y2 : Ext ι1 (upd H1 dx (.own x)) (ι1 ++ [x]) (upd (upd H1 dx (.own x)) x (.ins C dx [])) := Ext.push hx2
  have s2 := s1.push' (u := .ins C dx []) (o := .ins c []) hx2 (.ins upd_same hc .nil)
  have at2 : (ι1 ++ [x])[h1.length]? = some x := by rw [a1.sim.len]; exact new_get ι1 x
  refine ⟨ι1 ++ [x], h1 ++ [.ins c []], .ref h1.length :: vs, .non, h', s2, .cons (.ref at2) ((r1.mono y1).mono y2), e2, fun ι3 H3 V3 x3 s3 r3 => ⟨rep_non r3, ?_⟩⟩
  exact q ι3 H3 _ (x1.trans ((y1.trans y2).trans x3)) s3 (.ref (x3.at at2))
/-! methods of lists -/
theorem d_bm {K : PySem.W.Frag} {f p : Env → Hip → Res Val} {g : Env → Hip → Res (List Val)} {F : Val → FN} (hp : ∀ ρ h, p ρ h = (f ρ h).bind fun x h => match x with
      | .ref a => match h[a]? with
        | some (.lst _) => (g ρ h).bind fun vs h => F x vs h
        | _ => .bad
      | _ => .bad) {Q : VK} (d : De T p σ H Q) : tBM K "list" (rOM T F) (De T f) (Da T g) σ H Q := by
  obtain ⟨ι, ρ, h, v, h', a, e, q⟩ := d
  rw [hp] at e
  obtain ⟨x, h1, e1, e⟩ := bind_ok e
  refine De.go a e1 fun ι1 H1 V1 x1 a1 r1 => ?_
  split at e
  case h_2 => cases e
  split at e
  case h_2 => cases e
  rename_i i _ xs ei
  obtain ⟨vs, h2, e2, e⟩ := bind_ok e
  obtain ⟨b, ys, rfl, eb, eH, rs⟩ := sim_lst a1.sim r1 ei
  refine ⟨.inl ⟨rfl, ys, SqL.of eH⟩, Da.go a1 e2 fun ι2 H2 V2 x2 a2 r2 => ⟨ι2, h2, .ref i, vs, v, h', a2.sim, r1.mono x2, r2, e, q.mono (x1.trans x2)⟩⟩
/-! lists of ranges -/
theorem rng_rep : ∀ (n : Nat) (lo : Int), Reps T ι H (rng lo n) ((List.range n).map fun i => V.int (lo + (i : Nat)))
  | 0, _ => .nil
  | n + 1, lo => by
    rw [List.range_succ_eq_map, List.map_cons, List.map_map]
    have e : ((fun i : Nat => V.int (lo + (i : Nat))) ∘ Nat.succ) = fun i : Nat => V.int (lo + 1 + (i : Nat)) := by
      funext i
      show V.int (lo + ((i + 1 : Nat) : Int)) = _
      congr 1
      omega
    rw [e]
    refine .cons ?_ (rng_rep n (lo + 1))
    have : lo + ((0 : Nat) : Int) = lo := by simp
    rw [this]
    exact .int lo
theorem rng_length : ∀ (n : Nat) (lo : Int), (rng lo n).length = n
  | 0, _ => rfl
  | n + 1, lo => by show (rng (lo + 1) n).length + 1 = _; rw [rng_length]
theorem small_of {i : Int} (h : small i = true) : -(2 ^ 62) ≤ i ∧ i < 2 ^ 62 := by
  unfold small at h
  rw [Bool.and_eq_true] at h
  have h1 := of_decide_eq_true h.1
  have h2 := of_decide_eq_true h.2
  constructor <;> omega
theorem range1 (j : Int) : rangeOf [.int j] = if small j then some (rng 0 j.toNat) else none := rfl
theorem range2 (i j : Int) : rangeOf [.int i, .int j] = if small i && small j then some (rng i (j - i).toNat) else none := rfl
theorem rg_lst {a b : Int} {n : Nat} {Q : VK} (s : Sim T ι h H) (hn : n = (b - a).toNat) (q : Pst T ι H (.ref h.length) (h ++ [.lst (rng a n)]) Q) : ∀ p, H p = none → Q (.ref p) (upd H p (.lst (rgV a b))) := by
  subst hn
  exact fun p hp => q.lst s (rng_rep _ _) hp
theorem d_lrange1 {f p : Env → Hip → Res Val} (hp : ∀ ρ h, p ρ h = (f ρ h).bind fun x h => match rangeOf [x] with
      | some xs => if fits xs.length then alloc (.lst xs) h else .bad
      | none => .bad) {Q : VK} (d : De T p σ H Q) : tLstRg (tRg1 (De T f)) σ H Q := by
  obtain ⟨ι, ρ, h, v, h', a, e, q⟩ := d
  rw [hp] at e
  obtain ⟨x, h1, e1, e⟩ := bind_ok e
  refine De.go a e1 fun ι1 H1 V1 x1 a1 r1 => ?_
  cases x <;> first | (cases e; done) | skip
  rename_i j
  by_cases hs : small j = true
  · rw [show rangeOf [.int j] = some (rng 0 j.toNat) from by rw [range1, if_pos hs]] at e
    dsimp only at e
    split at e
    case isFalse => cases e
    rename_i hf
    cases e
    rw [rng_length] at hf
    have hf := of_decide_eq_true (show decide (j.toNat < 16777216) = true from hf)
    obtain ⟨b1, b2⟩ := small_of hs
    refine ⟨j, rep_int r1, ⟨by omega, by omega, b1, b2, by omega⟩, rg_lst a1.sim (by simp) (q.mono x1)⟩
  · rw [show rangeOf [.int j] = none from by rw [range1, if_neg hs]] at e
    cases e
theorem d_lrange2 {f g p : Env → Hip → Res Val} (hp : ∀ ρ h, p ρ h = (f ρ h).bind fun x h => (g ρ h).bind fun y h => match rangeOf [x, y] with
      | some xs => if fits xs.length then alloc (.lst xs) h else .bad
      | none => .bad) {Q : VK} (d : De T p σ H Q) : tLstRg (tRg2 (De T f) (De T g)) σ H Q := by
  obtain ⟨ι, ρ, h, v, h', a, e, q⟩ := d
  rw [hp] at e
  obtain ⟨x, h1, e1, e⟩ := bind_ok e
  obtain ⟨y, h2, e2, e⟩ := bind_ok e
  refine De.go a e1 fun ι1 H1 V1 x1 a1 r1 => De.go a1 e2 fun ι2 H2 V2 x2 a2 r2 => ?_
  have xy : ∃ i j, x = .int i ∧ y = .int j := by
    cases x <;> first | (cases e; done) | skip
    cases y <;> first | (cases e; done) | exact ⟨_, _, rfl, rfl⟩
  obtain ⟨i, j, rfl, rfl⟩ := xy
  by_cases hs : (small i && small j) = true
  · rw [show rangeOf [.int i, .int j] = some (rng i (j - i).toNat) from by rw [range2, if_pos hs]] at e
    dsimp only at e
    split at e
    case isFalse => cases e
    rename_i hf
    cases e
    rw [rng_length] at hf
    rw [Bool.and_eq_true] at hs
    have hf := of_decide_eq_true (show decide ((j - i).toNat < 16777216) = true from hf)
    obtain ⟨b1, b2⟩ := small_of hs.1
    obtain ⟨b3, b4⟩ := small_of hs.2
    refine ⟨i, j, rep_int r1, rep_int r2, ⟨b1, b2, b3, b4, by omega⟩, rg_lst a2.sim rfl (q.mono (x1.trans x2))⟩
  · rw [show rangeOf [.int i, .int j] = none from by rw [range2, if_neg hs]] at e
    cases e
end
end Z

set_option maxRecDepth 100000
/-! Z14: what is walked; targets; comprehensions by the evaluation. -/
namespace Z
open PySem PySem.Spec PyProof.Rows
open L2

/-! ### targets -/
def gNames : List Nat → TGs
  | [] => gNil
  | i :: is => gCons (gName i) (gNames is)
def gT (K : PySem.W.Frag) : Tg → TG
  | .nm i => gName i
  | .tp is => gTup K is.length (gNames is)
def tgIs : Tg → List Nat
  | .nm i => [i]
  | .tp is => is
section
variable {T : Tb} {ι ι' : List Addr} {ρ ρ' : Env} {h h1 h' : Hip} {σ : L2.St} {H H' : Hp}
theorem wipe_set {σ : L2.St} {i : Nat} {o : Option V} : ∀ {vs : List Nat}, i ∈ vs → wipe (σ.set i o) vs = wipe σ vs
  | v :: vs, m => by
    show (wipe (σ.set i o) vs).set v none = (wipe σ vs).set v none
    by_cases e : i ∈ vs
    · rw [wipe_set e]
    · have iv : i = v := (List.mem_cons.mp m).resolve_right e
      subst iv
      have : ∀ ws : List Nat, wipe (σ.set i o) ws = (wipe σ ws).set i ((wipe (σ.set i o) ws)[i]?.getD none) := fun ws => by
        refine List.ext_getElem? fun j => ?_
        by_cases hj : i = j
        · subst hj
          by_cases hl : i < (wipe σ ws).length
          · rw [List.getElem?_set_self hl]
            have hl2 : i < (wipe (σ.set i o) ws).length := by rw [wipe_length, List.length_set]; rw [wipe_length] at hl; exact hl
            rw [List.getElem?_eq_getElem hl2]; rfl
          · have e1 : (wipe (σ.set i o) ws)[i]? = none := List.getElem?_eq_none (by rw [wipe_length, List.length_set]; rw [wipe_length] at hl; omega)
            rw [e1, List.getElem?_eq_none (by rw [List.length_set]; omega)]
        · rw [List.getElem?_set_ne hj]
          clear m e
          induction ws with
          | nil => exact List.getElem?_set_ne hj
          | cons w ws ih =>
            show ((wipe (σ.set i o) ws).set w none)[j]? = ((wipe σ ws).set w none)[j]?
            by_cases hw : w = j
            · subst hw
              by_cases hl : w < (wipe σ ws).length
              · rw [List.getElem?_set_self hl, List.getElem?_set_self (by rw [wipe_length, List.length_set]; rw [wipe_length] at hl; exact hl)]
              · have l1 := wipe_length σ ws
                have l2 := wipe_length (σ.set i o) ws
                rw [List.length_set] at l2
                rw [List.getElem?_eq_none (by rw [List.length_set, l2, ← l1]; omega), List.getElem?_eq_none (by rw [List.length_set]; omega)]
            · rw [List.getElem?_set_ne hw, List.getElem?_set_ne hw]; exact ih
      rw [this vs, List.set_set]
theorem wipe_wipe (σ : L2.St) : ∀ (us vs : List Nat), us ⊆ vs → wipe (wipe σ us) vs = wipe σ vs
  | [], _, _ => rfl
  | u :: us, vs, h => by
    show wipe ((wipe σ us).set u none) vs = _
    rw [wipe_set (h List.mem_cons_self)]
    exact wipe_wipe σ us vs fun x m => h (List.mem_cons_of_mem _ m)
/-- after a target is set -/
theorem set_nm {i : Nat} {x : Val} {V : V} (a : At T ι ρ h σ H) (r : Rep T ι H x V) : At T ι (ρ.set i (some x)) h (σ.set i (some V)) H := ⟨a.env.set r, a.sim⟩
theorem set_names {own : List Nat} {σ0 : L2.St} : ∀ {is : List Nat} {xs : List Val} {Vs : List V} {ρ ρ' : Env} {σ : L2.St} {Q : L2.St → Hp → Prop}, At T ι ρ h σ H → Reps T ι H xs Vs → setTs is xs ρ = some ρ' →
    (∀ σ', At T ι ρ' h σ' H → (is ⊆ own → wipe σ' own = wipe σ own) → Q σ' H) → gNames is Vs σ H Q
  | [], [], _, ρ, ρ', σ, Q, a, .nil, e, k => by
    cases e
    exact ⟨rfl, k σ a fun _ => rfl⟩
  | [], _ :: _, _, _, _, _, _, _, _, e, _ => by cases e
  | _ :: _, [], _, _, _, _, _, _, _, e, _ => by cases e
  | i :: is, x :: xs, _, ρ, ρ', σ, Q, a, .cons (v := V) (vs := Vs) r rs, e, k => by
    refine ⟨V, Vs, rfl, ?_⟩
    exact set_names (σ0 := σ0) (set_nm a r) rs (show setTs is xs (ρ.set i (some x)) = some ρ' from e) fun σ' a' w => k σ' a' fun sub =>
      (w fun y m => sub (List.mem_cons_of_mem _ m)).trans (wipe_set (sub List.mem_cons_self))
theorem setTs_len : ∀ {is : List Nat} {xs : List Val} {ρ ρ' : Env}, setTs is xs ρ = some ρ' → xs.length = is.length
  | [], [], _, _, _ => rfl
  | [], _ :: _, _, _, e => by cases e
  | _ :: _, [], _, _, e => by cases e
  | i :: is, x :: xs, ρ, ρ', e => by simp [setTs_len (show setTs is xs (ρ.set i (some x)) = some ρ' from e)]
theorem set_ok {K : PySem.W.Frag} {own : List Nat} {t : Tg} {x : Val} {V : V} {Q : L2.St → Hp → Prop} (a : At T ι ρ h σ H) (r : Rep T ι H x V) (e : setT t x ρ = some ρ')
    (k : ∀ σ', At T ι ρ' h σ' H → (tgIs t ⊆ own → wipe σ' own = wipe σ own) → Q σ' H) : gT K t V σ H Q := by
  cases t with
  | nm i =>
    cases (show some (ρ.set i (some x)) = some ρ' from e)
    exact k _ (set_nm a r) fun sub => wipe_set (sub List.mem_cons_self)
  | tp is =>
    cases x <;> first | (cases e; done) | skip
    rename_i xs
    obtain ⟨p, vs, rfl, eH, rs⟩ := rep_tup r
    exact ⟨p, vs, rfl, SqT.of eH, by rw [← rs.length]; exact setTs_len e, set_names (σ0 := σ) a rs e k⟩
theorem Env'.wipe (en : Env' T ι H ρ σ) : ∀ vs : List Nat, Env' T ι H (wipes ρ vs) (L2.wipe σ vs)
  | [] => en
  | v :: vs => by
    have ih := Env'.wipe en vs
    refine ⟨?_, fun j y e => ?_⟩
    · show ((wipes ρ vs).set v none).length = ((L2.wipe σ vs).set v none).length
      rw [List.length_set, List.length_set]; exact ih.len
    · have e : ((wipes ρ vs).set v none)[j]? = some (some y) := e
      show ∃ u, ((L2.wipe σ vs).set v none)[j]? = some (some u) ∧ _
      by_cases hj : v = j
      · subst hj
        by_cases hl : v < (wipes ρ vs).length
        · rw [List.getElem?_set_self hl] at e; cases e
        · rw [List.getElem?_eq_none (by rw [List.length_set]; omega)] at e; cases e
      · rw [List.getElem?_set_ne hj] at e ⊢
        exact ih.at_ j y e
theorem At.wipe (a : At T ι ρ h σ H) (vs : List Nat) : At T ι (wipes ρ vs) h (L2.wipe σ vs) H := ⟨a.env.wipe vs, a.sim⟩
end

/-! ### what is walked -/
/-- J goes through k's items -/
def WalkOk (T : Tb) (ι0 : List Addr) (H0 : Hp) (J : It) (k : Wk) : Prop :=
  ∀ i ι H h, Ext ι0 H0 ι H → Sim T ι h H → k.at i h = true → i ≤ k.items.length → (k.items[i]? = none → J.stop i H) ∧
    ∀ v, k.items[i]? = some v → J.go i H ∧ ∀ x H', J.yld i H x H' → Ext ι H ι H' ∧ Sim T ι h H' ∧ Rep T ι H' v x
def Di (T : Tb) (f : Env → Hip → Res Wk) : TI := fun σ H R => ∃ ι ρ h k h', At T ι ρ h σ H ∧ f ρ h = .ok k h' ∧ ∀ ι' H' J, Ext ι H ι' H' → At T ι' ρ h' σ H' → WalkOk T ι' H' J k → R J H'
theorem PI_or {X : Cx} {tg e : Expr} {t u : TI} (h : PI X tg e t) (h2 : PI X tg e u) : PI X tg e fun σ H R => t σ H R ∨ u σ H R :=
  ⟨fun pins s σ H R I q => q.elim (fun q => h.run pins s σ H R I q) fun q => h2.run pins s σ H R I q⟩
section
variable {T : Tb} {ι ι' : List Addr} {ρ ρ' : Env} {h h1 h' : Hip} {σ : L2.St} {H H' : Hp} {X : Cx}
theorem walk_tup {K : PySem.W.Frag} {a : Addr} {xs : List Val} {vs : List V} (q : ∀ ι1 H1, Ext ι H ι1 H1 → SqT K H1 a vs) (r : Reps T ι H xs vs) : WalkOk T ι H (Itt K a) ⟨xs, none⟩ := by
  intro i ι1 H1 h1 x1 s1 _ _
  have q1 := q ι1 H1 x1
  refine ⟨fun e => ⟨vs, q1, ?_⟩, fun v e => ?_⟩
  · rw [← r.length]; exact List.getElem?_eq_none_iff.mp e
  · obtain ⟨V, eV, rV⟩ := r.get e
    refine ⟨⟨vs, V, q1, eV⟩, fun x H' y => ?_⟩
    obtain ⟨rfl, y⟩ := y
    have := y vs q1
    rw [eV] at this
    cases this
    exact ⟨.refl, s1, rV.mono x1⟩
theorem walk_lv {K : PySem.W.Frag} {a : Addr} {xs : List Val} {vs : List V} (q : ∀ ι1 H1, Ext ι H ι1 H1 → SqL K H1 a vs) (r : Reps T ι H xs vs) : WalkOk T ι H (Itl K a) ⟨xs, none⟩ := by
  intro i ι1 H1 h1 x1 s1 _ _
  have q1 := q ι1 H1 x1
  refine ⟨fun e => ⟨vs, q1, ?_⟩, fun v e => ?_⟩
  · rw [← r.length]; exact List.getElem?_eq_none_iff.mp e
  · obtain ⟨V, eV, rV⟩ := r.get e
    refine ⟨⟨vs, V, q1, eV⟩, fun x H' y => ?_⟩
    obtain ⟨rfl, y⟩ := y
    have := y vs q1
    rw [eV] at this
    cases this
    exact ⟨.refl, s1, rV.mono x1⟩
theorem walk_ref {K : PySem.W.Frag} {j : Nat} {a : Addr} {xs : List Val} (ej : ι[j]? = some a) : WalkOk T ι H (Itl K a) ⟨xs, some j⟩ := by
  intro i ι1 H1 h1 x1 s1 at1 _
  have at1 : (match h1[j]? with | some (.lst ys) => decide (ys[i]? = xs[i]?) | _ => false) = true := at1
  split at at1
  case h_2 => cases at1
  rename_i ys ey
  have eq := of_decide_eq_true at1
  obtain ⟨b, ws, e1, eb, eH, rs⟩ := sim_lst s1 (x := .ref a) (.ref (x1.at ej)) ey
  cases e1
  refine ⟨fun e => ⟨ws, SqL.of eH, ?_⟩, fun v e => ?_⟩
  · rw [← rs.length]
    rw [show xs[i]? = none from e] at eq
    exact List.getElem?_eq_none_iff.mp eq
  · rw [show xs[i]? = some v from e] at eq
    obtain ⟨V, eV, rV⟩ := rs.get eq
    refine ⟨⟨ws, V, SqL.of eH, eV⟩, fun x H' y => ?_⟩
    obtain ⟨rfl, y⟩ := y
    have := y ws (SqL.of eH)
    rw [eV] at this
    cases this
    exact ⟨.refl, s1, rV⟩
theorem rng_get : ∀ (n : Nat) (lo : Int) (i : Nat), (rng lo n)[i]? = if i < n then some (.int (lo + (i : Nat))) else none
  | 0, lo, i => by simp [rng]
  | n + 1, lo, 0 => by simp [rng]
  | n + 1, lo, i + 1 => by
    show (rng (lo + 1) n)[i]? = _
    rw [rng_get n (lo + 1) i]
    by_cases hi : i < n
    · rw [if_pos hi, if_pos (by omega)]
      congr 2
      omega
    · rw [if_neg hi, if_neg (by omega)]
theorem walk_rng {lo : Int} {n : Nat} : WalkOk T ι H (Itr lo n) ⟨rng lo n, none⟩ := by
  intro i ι1 H1 h1 x1 s1 _ _
  refine ⟨fun e => ?_, fun v e => ?_⟩
  · have e : (rng lo n)[i]? = none := e
    rw [rng_get] at e
    show n ≤ i
    by_cases hi : i < n
    · rw [if_pos hi] at e; cases e
    · omega
  · have e : (rng lo n)[i]? = some v := e
    rw [rng_get] at e
    by_cases hi : i < n
    · rw [if_pos hi] at e
      cases e
      refine ⟨hi, fun x H' y => ?_⟩
      obtain ⟨rfl, rfl⟩ := y
      exact ⟨.refl, s1, .int _⟩
    · rw [if_neg hi] at e; cases e
theorem pairs_get : ∀ {xs ys : List Val} {i : Nat}, (pairs xs ys)[i]? = match xs[i]?, ys[i]? with | some x, some y => some (.tup [x, y]) | _, _ => none
  | [], _, i => by simp [pairs]
  | x :: xs, [], i => by
    simp only [pairs, List.getElem?_nil]
    cases (x :: xs)[i]? <;> rfl
  | x :: xs, y :: ys, 0 => rfl
  | x :: xs, y :: ys, i + 1 => by
    show (pairs xs ys)[i]? = _
    rw [pairs_get]
    rfl
theorem pairs_len : ∀ {xs ys : List Val}, xs.length = ys.length → (pairs xs ys).length = ys.length
  | [], [], _ => rfl
  | [], _ :: _, e => by cases e
  | _ :: _, [], e => by cases e
  | x :: xs, y :: ys, e => by simp [pairs, pairs_len (show xs.length = ys.length by simpa using e)]
/-- an enumeration's pairs -/
theorem enum_get {xs : List Val} {i : Nat} : (pairs (rng 0 xs.length) xs)[i]? = (xs[i]?).map fun x => .tup [.int (i : Nat), x] := by
  rw [pairs_get, rng_get]
  by_cases hi : i < xs.length
  · rw [if_pos hi, List.getElem?_eq_getElem hi, show (0 : Int) + (i : Nat) = (i : Nat) by omega]
    rfl
  · rw [if_neg hi, List.getElem?_eq_none (by omega)]; rfl
theorem rep_pair {a b : Val} {p : Addr} {x y : V} (s : Sim T ι h H) (hp : H p = none) (r : Rep T ι H a x) (q : Rep T ι H b y) : Ext ι H ι (upd H p (.tup [x, y])) ∧ Sim T ι h (upd H p (.tup [x, y])) ∧ Rep T ι (upd H p (.tup [x, y])) (.tup [a, b]) (.ref p) :=
  ⟨Ext.laid hp, s.laid hp, .tup upd_same (.cons (r.mono (Ext.laid hp)) (.cons (q.mono (Ext.laid hp)) .nil))⟩
theorem walk_enumT {K : PySem.W.Frag} {a : Addr} {xs : List Val} {vs : List V} (q : ∀ ι1 H1, Ext ι H ι1 H1 → SqT K H1 a vs) (r : Reps T ι H xs vs) : WalkOk T ι H (IteT K a) ⟨pairs (rng 0 xs.length) xs, none⟩ := by
  intro i ι1 H1 h1 x1 s1 _ hle
  have q1 := q ι1 H1 x1
  have hle : i ≤ xs.length := by
    have : i ≤ (pairs (rng 0 xs.length) xs).length := hle
    rwa [pairs_len (rng_length _ _)] at this
  refine ⟨fun e => ?_, fun v e => ?_⟩
  · have e : (pairs (rng 0 xs.length) xs)[i]? = none := e
    rw [enum_get, Option.map_eq_none_iff] at e
    have := List.getElem?_eq_none_iff.mp e
    exact ⟨vs, q1, by rw [← r.length]; omega⟩
  · have e : (pairs (rng 0 xs.length) xs)[i]? = some v := e
    rw [enum_get] at e
    obtain ⟨z, ez, rfl⟩ := Option.map_eq_some_iff.mp e
    obtain ⟨V, eV, rV⟩ := r.get ez
    refine ⟨⟨vs, V, q1, eV⟩, fun x H' y => ?_⟩
    obtain ⟨p, w, rfl, hp, rfl, y⟩ := y
    have := y vs q1
    rw [eV] at this
    cases this
    exact rep_pair s1 hp (.int _) (rV.mono x1)
theorem walk_enumL {K : PySem.W.Frag} {a : Addr} {xs : List Val} {vs : List V} (q : ∀ ι1 H1, Ext ι H ι1 H1 → SqL K H1 a vs) (r : Reps T ι H xs vs) : WalkOk T ι H (Ite K a) ⟨pairs (rng 0 xs.length) xs, none⟩ := by
  intro i ι1 H1 h1 x1 s1 _ hle
  have q1 := q ι1 H1 x1
  refine ⟨fun e => ?_, fun v e => ?_⟩
  · have e : (pairs (rng 0 xs.length) xs)[i]? = none := e
    rw [enum_get, Option.map_eq_none_iff] at e
    have := List.getElem?_eq_none_iff.mp e
    exact ⟨vs, q1, by rw [← r.length]; exact this⟩
  · have e : (pairs (rng 0 xs.length) xs)[i]? = some v := e
    rw [enum_get] at e
    obtain ⟨z, ez, rfl⟩ := Option.map_eq_some_iff.mp e
    obtain ⟨V, eV, rV⟩ := r.get ez
    refine ⟨⟨vs, V, q1, eV⟩, fun x H' y => ?_⟩
    obtain ⟨p, w, rfl, hp, rfl, y⟩ := y
    have := y vs q1
    rw [eV] at this
    cases this
    exact rep_pair s1 hp (.int _) (rV.mono x1)
theorem walk_zip {K : PySem.W.Frag} {a b : Addr} {xs ys : List Val} {vs ws : List V} (q : ∀ ι1 H1, Ext ι H ι1 H1 → SqT K H1 a vs) (q' : ∀ ι1 H1, Ext ι H ι1 H1 → SqT K H1 b ws) (r : Reps T ι H xs vs) (r' : Reps T ι H ys ws) : WalkOk T ι H (RZ.ItzT K a b) ⟨pairs xs ys, none⟩ := by
  intro i ι1 H1 h1 x1 s1 _ hle
  have q1 := q ι1 H1 x1
  have q2 := q' ι1 H1 x1
  refine ⟨fun e => ?_, fun v e => ?_⟩
  · have e : (pairs xs ys)[i]? = none := e
    rw [pairs_get] at e
    refine ⟨vs, ws, q1, q2, ?_⟩
    cases e1 : xs[i]? with
    | none => exact .inl (by rw [← r.length]; exact List.getElem?_eq_none_iff.mp e1)
    | some x =>
      cases e2 : ys[i]? with
      | none => exact .inr (by rw [← r'.length]; exact List.getElem?_eq_none_iff.mp e2)
      | some y => rw [e1, e2] at e; cases e
  · have e : (pairs xs ys)[i]? = some v := e
    rw [pairs_get] at e
    cases e1 : xs[i]? with
    | none => rw [e1] at e; cases e
    | some z1 =>
      cases e2 : ys[i]? with
      | none => rw [e1, e2] at e; cases e
      | some z2 =>
        rw [e1, e2] at e
        cases e
        obtain ⟨V1, eV1, rV1⟩ := r.get e1
        obtain ⟨V2, eV2, rV2⟩ := r'.get e2
        refine ⟨⟨vs, ws, V1, V2, q1, q2, eV1, eV2⟩, fun x H' y => ?_⟩
        obtain ⟨p, w1, w2, rfl, hp, rfl, y1, y2⟩ := y
        have := y1 vs q1
        rw [eV1] at this
        cases this
        have := y2 ws q2
        rw [eV2] at this
        cases this
        exact rep_pair s1 hp (rV1.mono x1) (rV2.mono x1)
end
end Z

set_option maxRecDepth 100000
/-! Z15: iterators and comprehensions by the evaluation. -/
namespace Z
open PySem PySem.Spec PyProof.Rows
open L2
section
variable {T : Tb} {ι ι' : List Addr} {ρ ρ' : Env} {h h1 h' : Hip} {σ : L2.St} {H H' : Hp} {X : Cx} {K : PySem.W.Frag}

/-! ### iterators -/
theorem d_seq (hK : K = T.K) {f : Env → Hip → Res Val} {p : Env → Hip → Res Wk} (hp : ∀ ρ h, p ρ h = (f ρ h).bind fun v h => ok? (walkOf h v) id h) {R : It → Hp → Prop} (d : Di T p σ H R) : iList K (De T f) σ H R ∨ iTup K (De T f) σ H R := by
  subst hK
  obtain ⟨ι, ρ, h, k, h', a, e, q⟩ := d
  rw [hp] at e
  obtain ⟨v, h1, e1, e⟩ := bind_ok e
  obtain ⟨k', ek, rfl, rfl⟩ := ok?_ok e
  unfold walkOf at ek
  split at ek
  · cases ek
    refine .inr (De.go a e1 fun ι1 H1 V1 x1 a1 r1 => ?_)
    obtain ⟨b, vs, rfl, eH, rs⟩ := rep_tup r1
    exact ⟨b, rfl, ⟨vs, SqT.of eH⟩, q ι1 H1 _ x1 a1 (walk_tup (fun ι2 H2 x2 => x2.tup (SqT.of eH)) rs)⟩
  · cases ek
    refine .inl (De.go a e1 fun ι1 H1 V1 x1 a1 r1 => ?_)
    obtain ⟨b, vs, rfl, sf, rs⟩ := rep_lv r1
    exact ⟨b, rfl, ⟨vs, sf.sq⟩, q ι1 H1 _ x1 a1 (walk_lv (fun ι2 H2 x2 => (x2.frz sf).sq) rs)⟩
  · cases ek
    refine .inr (De.go a e1 fun ι1 H1 V1 x1 a1 r1 => ?_)
    obtain ⟨b, vs, rfl, sf, rs⟩ := rep_ctp r1
    exact ⟨b, rfl, ⟨vs, sf H1⟩, q ι1 H1 _ x1 a1 (walk_tup (fun ι2 H2 x2 => sf H2) rs)⟩
  · split at ek
    case h_2 => cases ek
    rename_i i _ xs ei
    cases ek
    refine .inl (De.go a e1 fun ι1 H1 V1 x1 a1 r1 => ?_)
    obtain ⟨b, vs, rfl, eb, eH, rs⟩ := sim_lst a1.sim r1 ei
    exact ⟨b, rfl, ⟨vs, SqL.of eH⟩, q ι1 H1 _ x1 a1 (walk_ref eb)⟩
  · cases ek
theorem rep1 {V : List V} {x : Val} (r : Reps T ι H [x] V) : ∃ v, V = [v] ∧ Rep T ι H x v := reps1 r
theorem d_rng1 {f : Env → Hip → Res Val} {p : Env → Hip → Res Wk} (hp : ∀ ρ h, p ρ h = (f ρ h).bind fun x h => ok? (rangeOf [x]) (fun xs => ⟨xs, none⟩) h) {R : It → Hp → Prop} (d : Di T p σ H R) : iRng1 (tCons (De T f) tNil) σ H R := by
  obtain ⟨ι, ρ, h, k, h', a, e, q⟩ := d
  rw [hp] at e
  obtain ⟨x, h1, e1, e⟩ := bind_ok e
  obtain ⟨xs, ek, rfl, rfl⟩ := ok?_ok e
  refine De.go a e1 fun ι1 H1 V1 x1 a1 r1 => ?_
  cases x <;> first | (cases ek; done) | skip
  rename_i j
  rw [range1] at ek
  split at ek
  case isFalse => cases ek
  rename_i hs
  cases ek
  obtain ⟨b1, b2⟩ := small_of hs
  exact ⟨j, by rw [rep_int r1], b1, b2, q ι1 H1 _ x1 a1 walk_rng⟩
theorem d_rng2 {f g : Env → Hip → Res Val} {p : Env → Hip → Res Wk} (hp : ∀ ρ h, p ρ h = (f ρ h).bind fun x h => (g ρ h).bind fun y h => ok? (rangeOf [x, y]) (fun xs => ⟨xs, none⟩) h) {R : It → Hp → Prop} (d : Di T p σ H R) :
    iRng2 (tCons (De T f) (tCons (De T g) tNil)) σ H R := by
  obtain ⟨ι, ρ, h, k, h', a, e, q⟩ := d
  rw [hp] at e
  obtain ⟨x, h1, e1, e⟩ := bind_ok e
  obtain ⟨y, h2, e2, e⟩ := bind_ok e
  obtain ⟨xs, ek, rfl, rfl⟩ := ok?_ok e
  refine De.go a e1 fun ι1 H1 V1 x1 a1 r1 => De.go a1 e2 fun ι2 H2 V2 x2 a2 r2 => ?_
  have xy : ∃ i j, x = .int i ∧ y = .int j := by
    cases x <;> first | (cases ek; done) | skip
    cases y <;> first | (cases ek; done) | exact ⟨_, _, rfl, rfl⟩
  obtain ⟨i, j, rfl, rfl⟩ := xy
  rw [range2] at ek
  split at ek
  case isFalse => cases ek
  rename_i hs
  cases ek
  rw [Bool.and_eq_true] at hs
  obtain ⟨b1, b2⟩ := small_of hs.1
  obtain ⟨b3, b4⟩ := small_of hs.2
  exact ⟨i, j, by rw [rep_int r1, rep_int r2], ⟨b1, b2, b3, b4⟩, q ι2 H2 _ (x1.trans x2) a2 walk_rng⟩
theorem d_enum (hK : K = T.K) {f : Env → Hip → Res Val} {p : Env → Hip → Res Wk} (hp : ∀ ρ h, p ρ h = (f ρ h).bind fun v h => match v with
      | .tup xs | .lv xs | .ctp xs => .ok ⟨pairs (rng 0 xs.length) xs, none⟩ h
      | _ => .bad) {R : It → Hp → Prop} (d : Di T p σ H R) : iEnum K (tCons (De T f) tNil) σ H R ∨ iEnumT K (tCons (De T f) tNil) σ H R := by
  subst hK
  obtain ⟨ι, ρ, h, k, h', a, e, q⟩ := d
  rw [hp] at e
  obtain ⟨v, h1, e1, e⟩ := bind_ok e
  split at e
  · cases e
    refine .inr (De.go a e1 fun ι1 H1 V1 x1 a1 r1 => ?_)
    obtain ⟨b, vs, rfl, eH, rs⟩ := rep_tup r1
    exact ⟨b, vs, rfl, SqT.of eH, q ι1 H1 _ x1 a1 (walk_enumT (fun ι2 H2 x2 => x2.tup (SqT.of eH)) rs)⟩
  · cases e
    refine .inl (De.go a e1 fun ι1 H1 V1 x1 a1 r1 => ?_)
    obtain ⟨b, vs, rfl, sf, rs⟩ := rep_lv r1
    exact ⟨b, vs, rfl, sf.sq, q ι1 H1 _ x1 a1 (walk_enumL (fun ι2 H2 x2 => (x2.frz sf).sq) rs)⟩
  · cases e
    refine .inr (De.go a e1 fun ι1 H1 V1 x1 a1 r1 => ?_)
    obtain ⟨b, vs, rfl, sf, rs⟩ := rep_ctp r1
    exact ⟨b, vs, rfl, sf H1, q ι1 H1 _ x1 a1 (walk_enumT (fun ι2 H2 x2 => sf H2) rs)⟩
  · cases e
theorem d_zip (hK : K = T.K) {f g : Env → Hip → Res Val} {p : Env → Hip → Res Wk} (hp : ∀ ρ h, p ρ h = (f ρ h).bind fun x h => (g ρ h).bind fun y h => match x, y with
      | .tup xs, .tup ys => .ok ⟨pairs xs ys, none⟩ h
      | _, _ => .bad) {R : It → Hp → Prop} (d : Di T p σ H R) : RZ.iZipA K (tCons (De T f) (tCons (De T g) tNil)) σ H R := by
  subst hK
  obtain ⟨ι, ρ, h, k, h', a, e, q⟩ := d
  rw [hp] at e
  obtain ⟨x, h1, e1, e⟩ := bind_ok e
  obtain ⟨y, h2, e2, e⟩ := bind_ok e
  split at e
  case h_2 => cases e
  cases e
  refine De.go a e1 fun ι1 H1 V1 x1 a1 r1 => De.go a1 e2 fun ι2 H2 V2 x2 a2 r2 => ?_
  obtain ⟨b, vs, rfl, eH, rs⟩ := rep_tup (r1.mono x2)
  obtain ⟨c, ws, rfl, eH2, rs2⟩ := rep_tup r2
  exact ⟨b, c, vs, ws, rfl, .inr ⟨SqT.of eH, SqT.of eH2, q ι2 H2 _ (x1.trans x2) a2 (walk_zip (fun ι3 H3 x3 => x3.tup (SqT.of eH)) (fun ι3 H3 x3 => x3.tup (SqT.of eH2)) rs rs2)⟩⟩

/-! ### comprehensions -/
/-- a comprehension's test -/
def Dc (T : Tb) (f : Env → Hip → Res Bool) : TT := fun σ H Q => ∃ ι ρ h b h', At T ι ρ h σ H ∧ f ρ h = .ok b h' ∧ PstB T ι H h' (Q b)
theorem Dc.go {f : Env → Hip → Res Bool} {b : Bool} {Q : Bool → Hp → Prop} (a : At T ι ρ h σ H) (e : f ρ h = .ok b h1) (k : ∀ ι1 H1, Ext ι H ι1 H1 → At T ι1 ρ h1 σ H1 → Q b H1) : Dc T f σ H Q :=
  ⟨ι, ρ, h, b, h1, a, e, fun ι1 H1 ex s => k ι1 H1 ex (a.to ex s)⟩
theorem dc_no {f : Env → Hip → Res Bool} (hf : ∀ ρ h, f ρ h = .ok true h) {Q : Bool → Hp → Prop} (d : Dc T f σ H Q) : tYes σ H Q := by
  obtain ⟨ι, ρ, h, b, h', a, e, q⟩ := d
  rw [hf] at e
  cases e
  exact q ι H .refl a.sim
theorem dc_so {f : Env → Hip → Res Bool} {g : Env → Hip → Res Val} (hf : ∀ ρ h, f ρ h = (g ρ h).bind fun v h => match v with | .bl b => .ok b h | _ => .bad) {Q : Bool → Hp → Prop} (d : Dc T f σ H Q) : Dt T g σ H Q := by
  obtain ⟨ι, ρ, h, b, h', a, e, q⟩ := d
  rw [hf] at e
  obtain ⟨x, h1, e1, e⟩ := bind_ok e
  split at e
  · cases e; exact ⟨ι, ρ, h, b, h', a, e1, q⟩
  · cases e
/-- a thing of one's own, beside the heap, is written -/
theorem Sim.aside (s : Sim T ι h H) {D : Addr} {u : HO} (np : D ∉ ι) (hm : ∀ o, H D = some o → Mut (some o)) : Sim T ι h (upd H D u) := by
  have e0 : Ext0 ι H ι (upd H D u) := ⟨fun q => q, fun a o e m => by
    rw [upd_ne]
    · exact e
    · rintro rfl; exact m (hm o e)⟩
  exact ⟨s.nd, s.len, fun i a o h1 h2 => (s.ob i a o h1 h2).mono0 e0 (upd_ne fun z => np (z ▸ List.mem_of_getElem? h1))⟩
theorem aside0 {D : Addr} {u : HO} (hm : ∀ o, H D = some o → Mut (some o)) : Ext0 ι H ι (upd H D u) := ⟨fun q => q, fun a o e m => by
    rw [upd_ne]
    · exact e
    · rintro rfl; exact m (hm o e)⟩
theorem Ext.aside {ι0 : List Addr} {H0 : Hp} (x : Ext ι0 H0 ι H) {D : Addr} {u : HO} (hD : H0 D = none) : Ext ι0 H0 ι (upd H D u) :=
  ⟨x.pre, fun a o e c => by rw [upd_ne (fun z => by rw [z, hD] at e; cases e)]; exact x.keep a o e c, x.fresh⟩
/-- the end of a comprehension: the list, the set becomes the heap's -/
theorem aside_end {ι0 : List Addr} {H0 : Hp} {D : Addr} {o : Ob} (s : Sim T ι h H) (x : Ext ι0 H0 ι H) (hD : H0 D = none) (np : D ∉ ι) {u : HO} (e : H D = some u) (hm : Mut (some u)) (r : ORep T ι H o D) :
    Ext ι0 H0 (ι ++ [D]) H ∧ Sim T (ι ++ [D]) (h ++ [o]) H ∧ (ι ++ [D])[h.length]? = some D := by
  have hu : upd H D u = H := by
    funext b
    by_cases hb : b = D
    · rw [hb, upd_same, e]
    · exact upd_ne hb
  have hm' : ∀ o, H D = some o → Mut (some o) := fun o z => by rw [e] at z; cases z; exact hm
  have e0 : Ext0 ι H (ι ++ [D]) H := by
    have := Ext0.push (ι := ι) (u := u) hm'
    rwa [hu] at this
  refine ⟨⟨x.pre.trans (List.prefix_append _ _), x.keep, fun a m n => ?_⟩, ?_, by rw [s.len]; exact new_get ι D⟩
  · rcases List.mem_append.mp m with m | m
    · exact x.fresh a m n
    · rw [List.mem_singleton.mp m]; exact hD
  · have := s.push0 (u := u) (o := o) np hm' (by rw [hu]; exact r.mono0 e0 rfl)
    rwa [hu] at this
theorem upd_self {u : HO} {D : Addr} (e : H D = some u) : upd H D u = H := by
  funext b
  by_cases hb : b = D
  · rw [hb, upd_same, e]
  · exact upd_ne hb

theorem d_lc {P : Pg} {cf : CF} {own : List Nat} {t : Tg} {it : IIt} {c : IO} {el : IE} (ht : tgIs t ⊆ own) {Q : VK} (d : De T (evE P cf (.lc own t it c el)) σ H Q) :
    tLc (Di T (evI P cf it)) (gT K t) (Dc T (evC P cf c)) (De T (evE P cf el)) own σ H Q := by
  obtain ⟨ι0, ρ, h0, v, hF, a, e, q⟩ := d
  obtain ⟨k, h1, e1, e⟩ := bind_ok (show (evI P cf it ρ h0).bind _ = _ from e)
  obtain ⟨res, hE, e2, e⟩ := bind_ok e
  cases e
  refine ⟨ι0, ρ, h0, k, h1, a, e1, fun ι1 H1 J x1 a1 wk D hD => ?_⟩
  have q1 := q.mono x1
  -- a state in the midst
  let W : Nat → Nat → Hp → Prop := fun i m H => ∃ ι h acc Acc, Ext ι1 H1 ι H ∧ Sim T ι h H ∧ D ∉ ι ∧ H D = some (.lst Acc) ∧ Reps T ι H acc Acc ∧ lcL k (compStep t (wipes ρ own) (evC P cf c) (evE P cf el)) i (k.items.drop i) acc h = .ok res hE ∧ i ≤ k.items.length ∧ m = k.items.length - i
  refine ⟨W, ⟨k.items.length, ι1, h1, [], [], Ext.aside .refl hD, a1.sim.laid hD, a1.sim.notin hD, upd_same, .nil, e2, Nat.zero_le _, rfl⟩, ?_⟩
  rintro i m H2 ⟨ι2, h2, acc, Acc, x2, s2, np, eD, rs, el2, hi, rfl⟩
  have hat : k.at i h2 = true := by
    cases z : k.items.drop i <;> (rw [z] at el2; unfold lcL at el2; split at el2 <;> first | assumption | cases el2)
  obtain ⟨w1, w2⟩ := wk i ι2 H2 h2 x2 s2 hat hi
  by_cases hlt : i < k.items.length
  · refine .inr ?_
    rw [List.drop_eq_getElem_cons hlt] at el2
    unfold lcL at el2
    rw [if_pos hat] at el2
    obtain ⟨go, yl⟩ := w2 _ (List.getElem?_eq_getElem hlt)
    refine ⟨go, W (i + 1) (k.items.length - (i + 1)), fun H' w => ⟨_, by omega, w⟩, fun x H' y => ?_⟩
    obtain ⟨y1, y2, y3⟩ := yl x H' y
    have a2 : At T ι2 (wipes ρ own) h2 (wipe σ own) H' := (a1.to (x2.trans y1) y2).wipe own
    have np2 := np
    have eD2 : H' D = some (.lst Acc) := y1.keep D _ eD (.inl np)
    split at el2
    · -- an item that comes
      rename_i yv h3 ef
      unfold compStep at ef
      split at ef
      case h_2 => cases ef
      rename_i ρ' eρ
      obtain ⟨b, h4, e4, ef⟩ := bind_ok ef
      cases b
      case false => cases ef
      rw [if_pos rfl] at ef
      obtain ⟨z, h5, e5, ef⟩ := bind_ok ef
      cases ef
      split at el2
      case isFalse => cases el2
      rename_i hfit
      refine set_ok (own := own) a2 y3 eρ fun σ' a3 w => ⟨(w ht).trans (wipe_wipe σ own own fun _ m => m), Dc.go a3 e4 fun ι4 H4 x4 a4 => ?_⟩
      rw [if_pos rfl]
      refine De.go a4 e5 fun ι5 H5 V5 x5 a5 r5 => ?_
      have x45 := x4.trans x5
      have eD5 : H5 D = some (.lst Acc) := x45.keep D _ eD2 (.inl np)
      have np5 : D ∉ ι5 := fun m => by
        have := x45.fresh D m np
        rw [eD2] at this
        cases this
      have hm : ∀ o, H5 D = some o → Mut (some o) := fun o z => by rw [eD5] at z; cases z; exact True.intro
      refine ⟨Acc, eD5, by rw [← rs.length]; exact SZ_le hfit, ι5, h3, acc ++ [yv], Acc ++ [V5], (x2.trans (y1.trans x45)).aside hD, a5.sim.aside np5 hm, np5, upd_same, ?_, el2, hlt, rfl⟩
      exact (Reps.append (rs.mono (y1.trans x45)) (.cons r5 .nil)).mono0 (aside0 hm)
    · -- one that does not
      rename_i h3 ef
      unfold compStep at ef
      split at ef
      case h_2 => cases ef
      rename_i ρ' eρ
      obtain ⟨b, h4, e4, ef⟩ := bind_ok ef
      cases b
      case true =>
        rw [if_pos rfl] at ef
        obtain ⟨z, h5, e5, ef⟩ := bind_ok ef
        cases ef
      rw [if_neg Bool.false_ne_true] at ef
      cases ef
      refine set_ok (own := own) a2 y3 eρ fun σ' a3 w => ⟨(w ht).trans (wipe_wipe σ own own fun _ m => m), Dc.go a3 e4 fun ι4 H4 x4 a4 => ?_⟩
      rw [if_neg Bool.false_ne_true]
      have np4 : D ∉ ι4 := fun m => by
        have := x4.fresh D m np
        rw [eD2] at this
        cases this
      exact ⟨ι4, h3, acc, Acc, x2.trans (y1.trans x4), a4.sim, np4, x4.keep D _ eD2 (.inl np), rs.mono (y1.trans x4), el2, hlt, rfl⟩
    · cases el2
  · have hi2 : i = k.items.length := by omega
    have en : k.items[i]? = none := List.getElem?_eq_none (by omega)
    refine .inl ⟨w1 en, ?_⟩
    rw [List.drop_eq_nil_of_le (by omega)] at el2
    unfold lcL at el2
    rw [if_pos hat] at el2
    cases el2
    obtain ⟨z1, z2, z3⟩ := aside_end s2 x2 hD np eD True.intro (.lst eD rs)
    exact q1 _ _ _ z1 z2 (.ref z3)
theorem lenK {κ : Type} {g : Val → Option κ} {ι : List Addr} {H : Hp} {kvs : List (Val × Val)} {ks : List (κ × V)} (r : RepK g T ι H kvs ks) : kvs.length = ks.length := by
  induction r with
  | nil => rfl
  | cons _ _ _ ih => simp [ih]
theorem d_dc {P : Pg} {cf : CF} {own : List Nat} {t : Tg} {it : IIt} {c : IO} {ek el : IE} (ht : tgIs t ⊆ own) {Q : VK} (d : De T (evE P cf (.dc own t it c ek el)) σ H Q) :
    tDc (Di T (evI P cf it)) (gT K t) (Dc T (evC P cf c)) (De T (evE P cf ek)) (De T (evE P cf el)) own σ H Q := by
  obtain ⟨ι0, ρ, h0, v, hF, a, e, q⟩ := d
  obtain ⟨k, h1, e1, e⟩ := bind_ok (show (evI P cf it ρ h0).bind _ = _ from e)
  obtain ⟨res, hE, e2, e⟩ := bind_ok e
  cases e
  refine ⟨ι0, ρ, h0, k, h1, a, e1, fun ι1 H1 J x1 a1 wk D hD => ?_⟩
  have q1 := q.mono x1
  -- a state in the midst
  let W : Nat → Nat → Hp → Prop := fun i m H => ∃ ι h acc Acc, Ext ι1 H1 ι H ∧ Sim T ι h H ∧ D ∉ ι ∧ H D = some (.dK Acc) ∧ RepK key1? T ι H acc Acc ∧ dcL k (compStep2 t (wipes ρ own) (evC P cf c) (evE P cf ek) (evE P cf el)) i (k.items.drop i) acc h = .ok res hE ∧ i ≤ k.items.length ∧ m = k.items.length - i
  refine ⟨W, ⟨k.items.length, ι1, h1, [], [], Ext.aside .refl hD, a1.sim.laid hD, a1.sim.notin hD, upd_same, .nil, e2, Nat.zero_le _, rfl⟩, ?_⟩
  rintro i m H2 ⟨ι2, h2, acc, Acc, x2, s2, np, eD, rs, el2, hi, rfl⟩
  have hat : k.at i h2 = true := by
    cases z : k.items.drop i <;> (rw [z] at el2; unfold dcL at el2; split at el2 <;> first | assumption | cases el2)
  obtain ⟨w1, w2⟩ := wk i ι2 H2 h2 x2 s2 hat hi
  by_cases hlt : i < k.items.length
  · refine .inr ?_
    rw [List.drop_eq_getElem_cons hlt] at el2
    unfold dcL at el2
    rw [if_pos hat] at el2
    obtain ⟨go, yl⟩ := w2 _ (List.getElem?_eq_getElem hlt)
    refine ⟨go, W (i + 1) (k.items.length - (i + 1)), fun H' w => ⟨_, by omega, w⟩, fun x H' y => ?_⟩
    obtain ⟨y1, y2, y3⟩ := yl x H' y
    have a2 : At T ι2 (wipes ρ own) h2 (wipe σ own) H' := (a1.to (x2.trans y1) y2).wipe own
    have np2 := np
    have eD2 : H' D = some (.dK Acc) := y1.keep D _ eD (.inl np)
    split at el2
    · -- an item that comes
      rename_i yv h3 ef
      unfold compStep2 at ef
      split at ef
      case h_2 => cases ef
      rename_i ρ' eρ
      obtain ⟨b, h4, e4, ef⟩ := bind_ok ef
      cases b
      case false => cases ef
      rw [if_pos rfl] at ef
      obtain ⟨ky, h45, e45, ef⟩ := bind_ok ef
      obtain ⟨z, h5, e5, ef⟩ := bind_ok ef
      cases ef
      split at el2
      case isFalse => cases el2
      rename_i hfit
      rw [Bool.and_eq_true] at hfit
      obtain ⟨hk1, hfit⟩ := hfit
      obtain ⟨kk, ekk⟩ := isKey1_some hk1
      refine set_ok (own := own) a2 y3 eρ fun σ' a3 w => ⟨(w ht).trans (wipe_wipe σ own own fun _ m => m), Dc.go a3 e4 fun ι4 H4 x4 a4 => ?_⟩
      rw [if_pos rfl]
      refine De.go a4 e45 fun ι6 H6 V6 x6 a6 r6 => De.go a6 e5 fun ι5 H5 V5 x5 a5 r5 => ?_
      have x45 := (x4.trans x6).trans x5
      have eD5 : H5 D = some (.dK Acc) := x45.keep D _ eD2 (.inl np)
      have np5 : D ∉ ι5 := fun m => by
        have := x45.fresh D m np
        rw [eD2] at this
        cases this
      have hm : ∀ o, H5 D = some o → Mut (some o) := fun o z => by rw [eD5] at z; cases z; exact True.intro
      refine ⟨Acc, kk, key1_rep ekk r6, eD5, ?_, ι5, h3, dput ky z acc, putK Acc kk V5, (x2.trans (y1.trans x45)).aside hD, a5.sim.aside np5 hm, np5, upd_same, ?_, el2, hlt, rfl⟩
      · rw [← lenK rs]
        have := SZ_le hfit
        omega
      · exact (dput_rep (g := key1?) key1_inj ekk r5 (rs.mono (y1.trans x45))).mono0 (aside0 hm)
    · -- one that does not
      rename_i h3 ef
      unfold compStep2 at ef
      split at ef
      case h_2 => cases ef
      rename_i ρ' eρ
      obtain ⟨b, h4, e4, ef⟩ := bind_ok ef
      cases b
      case true =>
        rw [if_pos rfl] at ef
        obtain ⟨z0, h50, e50, ef⟩ := bind_ok ef
        obtain ⟨z, h5, e5, ef⟩ := bind_ok ef
        cases ef
      rw [if_neg Bool.false_ne_true] at ef
      cases ef
      refine set_ok (own := own) a2 y3 eρ fun σ' a3 w => ⟨(w ht).trans (wipe_wipe σ own own fun _ m => m), Dc.go a3 e4 fun ι4 H4 x4 a4 => ?_⟩
      rw [if_neg Bool.false_ne_true]
      have np4 : D ∉ ι4 := fun m => by
        have := x4.fresh D m np
        rw [eD2] at this
        cases this
      exact ⟨ι4, h3, acc, Acc, x2.trans (y1.trans x4), a4.sim, np4, x4.keep D _ eD2 (.inl np), rs.mono (y1.trans x4), el2, hlt, rfl⟩
    · cases el2
  · have hi2 : i = k.items.length := by omega
    have en : k.items[i]? = none := List.getElem?_eq_none (by omega)
    refine .inl ⟨w1 en, ?_⟩
    rw [List.drop_eq_nil_of_le (by omega)] at el2
    unfold dcL at el2
    rw [if_pos hat] at el2
    cases el2
    obtain ⟨z1, z2, z3⟩ := aside_end s2 x2 hD np eD True.intro (.dK eD rs)
    exact q1 _ _ _ z1 z2 (.ref z3)
theorem addTo_nodup {c : Int} {acc : List Int} (h : acc.Nodup) : (addTo c acc).Nodup := by
  unfold addTo
  split
  · exact h
  · rename_i n
    rw [List.nodup_append]
    exact ⟨h, by simp, fun a ha b hb => by rw [List.mem_singleton.mp hb]; rintro rfl; exact n ha⟩
theorem room_of {n : Nat} (h : n < 4000) : n + 1 < scanBound := by show n + 1 < 4096; omega
theorem d_sc {P : Pg} {cf : CF} {own : List Nat} {t : Tg} {it : IIt} {c : IO} {el : IE} (ht : tgIs t ⊆ own) {Q : VK} (d : De T (evE P cf (.sc own t it c el)) σ H Q) :
    tScI T.w (Di T (evI P cf it)) (gT K t) (Dc T (evC P cf c)) (De T (evE P cf el)) own σ H Q := by
  obtain ⟨ι0, ρ, h0, v, hF, a, e, q⟩ := d
  obtain ⟨k, h1, e1, e⟩ := bind_ok (show (evI P cf it ρ h0).bind _ = _ from e)
  obtain ⟨res, hE, e2, e⟩ := bind_ok e
  cases e
  refine ⟨ι0, ρ, h0, k, h1, a, e1, fun ι1 H1 J x1 a1 wk D hD => ?_⟩
  have q1 := q.mono x1
  -- a state in the midst
  let W : Nat → Nat → Hp → Prop := fun i m H => ∃ ι h acc, Ext ι1 H1 ι H ∧ Sim T ι h H ∧ D ∉ ι ∧ H D = some (AccS T.w D acc) ∧ acc.Nodup ∧ scL k (compStep t (wipes ρ own) (evC P cf c) (evE P cf el)) i (k.items.drop i) acc h = .ok res hE ∧ i ≤ k.items.length ∧ m = k.items.length - i
  refine ⟨W, ⟨k.items.length, ι1, h1, [], Ext.aside .refl hD, a1.sim.laid hD, a1.sim.notin hD, upd_same, List.nodup_nil, e2, Nat.zero_le _, rfl⟩, ?_⟩
  rintro i m H2 ⟨ι2, h2, acc, x2, s2, np, eD, nd, el2, hi, rfl⟩
  have hat : k.at i h2 = true := by
    cases z : k.items.drop i <;> (rw [z] at el2; unfold scL at el2; split at el2 <;> first | assumption | cases el2)
  obtain ⟨w1, w2⟩ := wk i ι2 H2 h2 x2 s2 hat hi
  by_cases hlt : i < k.items.length
  · refine .inr ?_
    rw [List.drop_eq_getElem_cons hlt] at el2
    unfold scL at el2
    rw [if_pos hat] at el2
    obtain ⟨go, yl⟩ := w2 _ (List.getElem?_eq_getElem hlt)
    refine ⟨go, W (i + 1) (k.items.length - (i + 1)), fun H' w => ⟨_, by omega, w⟩, fun x H' y => ?_⟩
    obtain ⟨y1, y2, y3⟩ := yl x H' y
    have a2 : At T ι2 (wipes ρ own) h2 (wipe σ own) H' := (a1.to (x2.trans y1) y2).wipe own
    have np2 := np
    have eD2 : H' D = some (AccS T.w D acc) := y1.keep D _ eD (.inl np)
    split at el2
    · -- an item that comes
      rename_i yv h3 ef
      unfold compStep at ef
      split at ef
      case h_2 => cases ef
      rename_i ρ' eρ
      obtain ⟨b, h4, e4, ef⟩ := bind_ok ef
      cases b
      case false => cases ef
      rw [if_pos rfl] at ef
      obtain ⟨z, h5, e5, ef⟩ := bind_ok ef
      cases ef
      split at el2
      case isFalse => cases el2
      rename_i hfit
      refine set_ok (own := own) a2 y3 eρ fun σ' a3 w => ⟨(w ht).trans (wipe_wipe σ own own fun _ m => m), Dc.go a3 e4 fun ι4 H4 x4 a4 => ?_⟩
      rw [if_pos rfl]
      refine De.go a4 e5 fun ι5 H5 V5 x5 a5 r5 => ?_
      have x45 := x4.trans x5
      have eD5 : H5 D = some (AccS T.w D acc) := x45.keep D _ eD2 (.inl np)
      have np5 : D ∉ ι5 := fun m => by
        have := x45.fresh D m np
        rw [eD2] at this
        cases this
      have hm : ∀ o, H5 D = some o → Mut (some o) := fun o z => by rw [eD5] at z; cases z; exact True.intro
      exact ⟨yv, acc, rep_int r5, eD5, room_of hfit, ι5, h3, addTo yv acc, (x2.trans (y1.trans x45)).aside hD, a5.sim.aside np5 hm, np5, upd_same, addTo_nodup nd, el2, hlt, rfl⟩
    · -- one that does not
      rename_i h3 ef
      unfold compStep at ef
      split at ef
      case h_2 => cases ef
      rename_i ρ' eρ
      obtain ⟨b, h4, e4, ef⟩ := bind_ok ef
      cases b
      case true =>
        rw [if_pos rfl] at ef
        obtain ⟨z, h5, e5, ef⟩ := bind_ok ef
        cases ef
      rw [if_neg Bool.false_ne_true] at ef
      cases ef
      refine set_ok (own := own) a2 y3 eρ fun σ' a3 w => ⟨(w ht).trans (wipe_wipe σ own own fun _ m => m), Dc.go a3 e4 fun ι4 H4 x4 a4 => ?_⟩
      rw [if_neg Bool.false_ne_true]
      have np4 : D ∉ ι4 := fun m => by
        have := x4.fresh D m np
        rw [eD2] at this
        cases this
      exact ⟨ι4, h3, acc, x2.trans (y1.trans x4), a4.sim, np4, x4.keep D _ eD2 (.inl np), nd, el2, hlt, rfl⟩
    · cases el2
  · have hi2 : i = k.items.length := by omega
    have en : k.items[i]? = none := List.getElem?_eq_none (by omega)
    refine .inl ⟨w1 en, ?_⟩
    rw [List.drop_eq_nil_of_le (by omega)] at el2
    unfold scL at el2
    rw [if_pos hat] at el2
    cases el2
    obtain ⟨z1, z2, z3⟩ := aside_end s2 x2 hD np eD True.intro (.set eD nd fun i => decide_eq_true_iff)
    exact q1 _ _ _ z1 z2 (.ref z3)
end
end Z

set_option maxRecDepth 100000
/-! Z16: statements by the evaluation. -/
namespace Z
open PySem PySem.Spec PyProof.Rows
open L2

/-- o[i] = v -/
def rPut (T : Tb) : TSet := fun o i v H Q => ∃ ι h a b c h', Sim T ι h H ∧ Rep T ι H a o ∧ Rep T ι H b i ∧ Rep T ι H c v ∧ putIx a b c h = .ok () h' ∧ PstB T ι H h' Q
section
variable {T : Tb} {X : Cx}
theorem repK_len {κ : Type} {g : Val → Option κ} {ι : List Addr} {H : Hp} {kvs : List (Val × Val)} {ks : List (κ × V)} (r : RepK g T ι H kvs ks) : kvs.length = ks.length := by
  induction r with
  | nil => rfl
  | cons _ _ _ ih => simp [ih]
theorem s_put (c : Cal T X) : PSet X (rPut T) := by
  rintro pins s σ H o i v ov iv u Q I ro ri rv ⟨ι, h, a, b, cv, h', sim, ra, rb, rc, e, q⟩
  unfold putIx at e
  split at e
  case h_2 => cases e
  rename_i n
  split at e
  · rename_i xs k ei
    split at e
    case h_2 => cases e
    rename_i j ej
    cases e
    obtain ⟨p, vs, rfl, ep, eH, rs⟩ := sim_lst sim ra ei
    have hw : Ext ι H ι (upd H p (.lst (vs.set j v))) := Ext.wr (List.mem_of_getElem? ep) (by rw [eH]; exact True.intro)
    exact set_list pins s σ H _ _ _ ov iv u Q I ro ri rv ⟨p, vs, k, j, rfl, rep_int rb, eH, by rw [← rs.length]; exact ej, q ι _ hw (sim.wr ep (.lst upd_same ((rs.set rc j).mono hw)))⟩
  · rename_i k _ _ kvs ei
    split at e
    case isFalse => cases e
    rename_i hc
    rw [Bool.and_eq_true] at hc
    cases e
    have hu : X.A.units + 1 < cLine := by have := c.un; omega
    obtain ⟨p, H1, rfl, ep, I1, s1, x1, dk⟩ := dict_at I sim ei rb ra hc.1
    obtain rfl : ov = Value.ref p := ro
    have hl := SZ_le hc.2
    have q1 : PstB T ι H1 (h.set n (.dct (dput k cv kvs))) Q := fun ι' H' x s => q ι' H' (x1.trans x) s
    rcases dk with ⟨ks, kk, eH, rk, ek, rfl⟩ | ⟨ks, kk, b, eH, rk, ek, rfl, eb⟩
    · have hw : Ext ι H1 ι (upd H1 p (.dK (putK ks kk v))) := Ext.wr (List.mem_of_getElem? ep) (by rw [eH]; exact True.intro)
      have lk : ks.length < sizeLine := by have := repK_len rk; omega
      refine d_setItem hu I1 (DPut.k eH lk) ri rv fun s' I' => ⟨_, I', q1 ι _ hw (s1.wr ep (.dK upd_same ((dput_rep (fun e f => key1_inj e f) ek (rc.mono x1) rk).mono hw)))⟩
    · have hw : Ext ι H1 ι (upd H1 p (.dT (putK ks kk v))) := Ext.wr (List.mem_of_getElem? ep) (by rw [eH]; exact True.intro)
      have lk : ks.length < sizeLine := by have := repK_len rk; omega
      refine d_setItem hu I1 (DPut.t eH eb lk) ri rv fun s' I' => ⟨_, I', q1 ι _ hw (s1.wr ep (.dT upd_same ((dput_rep (fun e f => keyT_inj e f) ek (rc.mono x1) rk).mono hw)))⟩
  · cases e
theorem i_aug (o : Op2) (op : Operator) (h0 : (o = .add ∧ op = .Add) ∨ (o = .sub ∧ op = .Sub) ∨ (o = .mul ∧ op = .Mult)) : PIp X op (rO2 T (augOp o)) := by
  rintro pins s σ H x y v u Q I rx ry ⟨ι, h, a, b, w, h', sim, ra, rb, e, q⟩
  unfold augOp at e
  split at e
  · split at e
    case h_2 => cases e
    rename_i i j _ _ xs ys ei ej
    split at e
    case isFalse => cases e
    rename_i hc
    cases e
    have eo : op = .Add := by
      rcases h0 with ⟨_, z⟩ | ⟨z, _⟩ | ⟨z, _⟩
      · exact z
      · cases z
      · cases z
    subst eo
    obtain ⟨p, vs, rfl, ep, eH, rs⟩ := sim_lst sim ra ei
    obtain ⟨p2, ws, rfl, ep2, eH2, rs2⟩ := sim_lst sim rb ej
    have hl := SZ_le hc.2
    have hw : Ext ι H ι (upd H p (.lst (vs ++ ws))) := Ext.wr (List.mem_of_getElem? ep) (by rw [eH]; exact True.intro)
    exact iop_ext pins s σ H _ _ v u Q I rx ry ⟨p, p2, vs, ws, rfl, rfl, eH, eH2, by rw [← rs.length, ← rs2.length]; exact Nat.le_of_lt hl, q ι _ _ hw (sim.wr ep (.lst upd_same ((rs.append rs2).mono hw))) (.ref ep)⟩
  · cases e
    have eo : op = .Add := by
      rcases h0 with ⟨_, z⟩ | ⟨z, _⟩ | ⟨z, _⟩
      · exact z
      · cases z
      · cases z
    subst eo
    exact ip_add pins s σ H _ _ v u Q I rx ry ⟨_, _, rep_int ra, rep_int rb, q.val sim (.int _)⟩
  · cases e
    have eo : op = .Sub := by
      rcases h0 with ⟨z, _⟩ | ⟨_, z⟩ | ⟨z, _⟩
      · cases z
      · exact z
      · cases z
    subst eo
    exact ip_sub pins s σ H _ _ v u Q I rx ry ⟨_, _, rep_int ra, rep_int rb, q.val sim (.int _)⟩
  · split at e
    case isFalse => cases e
    rename_i hm
    cases e
    have eo : op = .Mult := by
      rcases h0 with ⟨z, _⟩ | ⟨z, _⟩ | ⟨_, z⟩
      · cases z
      · cases z
      · exact z
    subst eo
    exact iop_mul pins s σ H _ _ v u Q I rx ry ⟨_, _, rep_int ra, rep_int rb, mulOk_C hm, q.val sim (.int _)⟩
  · cases e
end

/-! ### statements -/
def toEnd (T : Tb) (D : Ends) (fl : Flow) (ι : List Addr) (σ : L2.St) (H : Hp) : Prop := match fl with
  | .nx => D.nx σ H
  | .brk => D.bk σ H
  | .cont => D.ct σ H
  | .ret v => ∀ V, Rep T ι H v V → D.rt V H
def PstS (T : Tb) (ι : List Addr) (H : Hp) (fr : Flow × Env) (h' : Hip) (D : Ends) : Prop := ∀ ι' H' σ', Ext ι H ι' H' → At T ι' fr.2 h' σ' H' → toEnd T D fr.1 ι' σ' H'
theorem PstS.mono {T : Tb} {ι ι' : List Addr} {H H' : Hp} {fr : Flow × Env} {h' : Hip} {D : Ends} (q : PstS T ι H fr h' D) (x : Ext ι H ι' H') : PstS T ι' H' fr h' D := fun ι2 H2 σ2 x2 a => q ι2 H2 σ2 (x.trans x2) a
def Ds (T : Tb) (f : Env → Hip → Res (Flow × Env)) : TS := fun D σ H => ∃ ι ρ h fr h', At T ι ρ h σ H ∧ f ρ h = .ok fr h' ∧ PstS T ι H fr h' D
section
variable {T : Tb} {ι ι' : List Addr} {ρ ρ' : Env} {h h1 h' : Hip} {σ : L2.St} {H H' : Hp} {X : Cx} {K : PySem.W.Frag} {D : Ends}
abbrev SF := Env → Hip → Res (Flow × Env)
theorem ds_nil {p : SF} (hp : ∀ ρ h, p ρ h = .ok (.nx, ρ) h) (d : Ds T p D σ H) : tNext D σ H := by
  obtain ⟨ι, ρ, h, fr, h', a, e, q⟩ := d
  rw [hp] at e
  cases e
  exact q ι H σ .refl a
theorem ds_brk {p : SF} (hp : ∀ ρ h, p ρ h = .ok (.brk, ρ) h) (d : Ds T p D σ H) : tBreak D σ H := by
  obtain ⟨ι, ρ, h, fr, h', a, e, q⟩ := d
  rw [hp] at e
  cases e
  exact q ι H σ .refl a
theorem ds_cont {p : SF} (hp : ∀ ρ h, p ρ h = .ok (.cont, ρ) h) (d : Ds T p D σ H) : tCont D σ H := by
  obtain ⟨ι, ρ, h, fr, h', a, e, q⟩ := d
  rw [hp] at e
  cases e
  exact q ι H σ .refl a
theorem ds_never {p : SF} (hp : ∀ ρ h, p ρ h = .bad) (d : Ds T p D σ H) : tNever D σ H := by
  obtain ⟨ι, ρ, h, fr, h', a, e, q⟩ := d
  rw [hp] at e
  cases e
theorem ds_cons {f g p : SF} (hp : ∀ ρ h, p ρ h = (f ρ h).bind fun fr h => match fr with
    | (.nx, ρ) => g ρ h
    | fr => .ok fr h) (d : Ds T p D σ H) : tSeq (Ds T f) (Ds T g) D σ H := by
  obtain ⟨ι, ρ, h, fr, h', a, e, q⟩ := d
  rw [hp] at e
  obtain ⟨⟨fl, ρ1⟩, h1, e1, e⟩ := bind_ok e
  refine ⟨ι, ρ, h, (fl, ρ1), h1, a, e1, fun ι1 H1 σ1 x1 a1 => ?_⟩
  cases fl with
  | nx => exact ⟨ι1, ρ1, h1, fr, h', a1, e, q.mono x1⟩
  | brk => cases e; exact q ι1 H1 σ1 x1 a1
  | cont => cases e; exact q ι1 H1 σ1 x1 a1
  | ret v => cases e; exact q ι1 H1 σ1 x1 a1
theorem ds_drop {f : Env → Hip → Res Val} {p : SF} (hp : ∀ ρ h, p ρ h = (f ρ h).bind fun _ h => .ok (.nx, ρ) h) (d : Ds T p D σ H) : tDrop (De T f) D σ H := by
  obtain ⟨ι, ρ, h, fr, h', a, e, q⟩ := d
  rw [hp] at e
  obtain ⟨v, h1, e1, e⟩ := bind_ok e
  cases e
  exact De.go a e1 fun ι1 H1 V x1 a1 r1 => q ι1 H1 σ x1 a1
theorem ds_ret {f : Env → Hip → Res Val} {p : SF} (hp : ∀ ρ h, p ρ h = (f ρ h).bind fun v h => .ok (.ret v, ρ) h) (d : Ds T p D σ H) : tRet (De T f) D σ H := by
  obtain ⟨ι, ρ, h, fr, h', a, e, q⟩ := d
  rw [hp] at e
  obtain ⟨v, h1, e1, e⟩ := bind_ok e
  cases e
  exact De.go a e1 fun ι1 H1 V x1 a1 r1 => q ι1 H1 σ x1 a1 V r1
theorem ds_retN {p : SF} (hp : ∀ ρ h, p ρ h = .ok (.ret .non, ρ) h) (d : Ds T p D σ H) : tRetN D σ H := by
  obtain ⟨ι, ρ, h, fr, h', a, e, q⟩ := d
  rw [hp] at e
  cases e
  exact q ι H σ .refl a _ .non
theorem ds_if {c : Env → Hip → Res Val} {f g p : SF} (hp : ∀ ρ h, p ρ h = (c ρ h).bind fun x h => match x with | .bl true => f ρ h | .bl false => g ρ h | _ => .bad) (d : Ds T p D σ H) : tIfS (Dt T c) (Ds T f) (Ds T g) D σ H := by
  obtain ⟨ι, ρ, h, fr, h', a, e, q⟩ := d
  rw [hp] at e
  obtain ⟨x, h1, e1, e⟩ := bind_ok e
  split at e
  · exact Dt.go a e1 fun ι1 H1 x1 a1 => by rw [if_pos rfl]; exact ⟨ι1, ρ, h1, fr, h', a1, e, q.mono x1⟩
  · exact Dt.go a e1 fun ι1 H1 x1 a1 => by rw [if_neg Bool.false_ne_true]; exact ⟨ι1, ρ, h1, fr, h', a1, e, q.mono x1⟩
  · cases e
theorem ds_asg {t : Tg} {f : Env → Hip → Res Val} {p : SF} (hp : ∀ ρ h, p ρ h = (f ρ h).bind fun v h => ok? (setT t v ρ) (fun ρ => (.nx, ρ)) h) (d : Ds T p D σ H) : tAsg (De T f) (gT K t) D σ H := by
  obtain ⟨ι, ρ, h, fr, h', a, e, q⟩ := d
  rw [hp] at e
  obtain ⟨v, h1, e1, e⟩ := bind_ok e
  obtain ⟨ρ', eρ, rfl, rfl⟩ := ok?_ok e
  exact De.go a e1 fun ι1 H1 V x1 a1 r1 => set_ok (own := []) a1 r1 eρ fun σ' a2 _ => q ι1 H1 σ' x1 a2
/-- two names at once: x, y = a, b -/
theorem ds_par {i j : Nat} {f g : Env → Hip → Res Val} {p : SF} (hp : ∀ ρ h, p ρ h = ((f ρ h).bind fun x h => (g ρ h).bind fun y h => .ok [x, y] h).bind fun vs h => (if fits vs.length then .ok (.tup vs) h else .bad : Res Val).bind fun v h => ok? (setT (.tp [i, j]) v ρ) (fun ρ => (.nx, ρ)) h)
    (d : Ds T p D σ H) : tPar i j (tCons (De T f) (tCons (De T g) tNil)) D σ H := by
  obtain ⟨ι, ρ, h, fr, h', a, e, q⟩ := d
  rw [hp] at e
  obtain ⟨vs, h3, e0, e⟩ := bind_ok e
  obtain ⟨x, h1, e1, e0⟩ := bind_ok e0
  obtain ⟨y, h2, e2, e0⟩ := bind_ok e0
  cases e0
  obtain ⟨ρ', eρ, rfl, rfl⟩ := ok?_ok (show ok? (setT (.tp [i, j]) (.tup [x, y]) ρ) (fun ρ => (Flow.nx, ρ)) _ = _ from e)
  cases eρ
  exact De.go a e1 fun ι1 H1 V1 x1 a1 r1 => De.go a1 e2 fun ι2 H2 V2 x2 a2 r2 => ⟨V1, V2, rfl, q ι2 H2 _ (x1.trans x2) (set_nm (set_nm a2 (r1.mono x2)) r2)⟩
/-- three names at once -/
theorem ds_par3 {i j l : Nat} {f g k : Env → Hip → Res Val} {p : SF} (hp : ∀ ρ h, p ρ h = ((f ρ h).bind fun x h => (g ρ h).bind fun y h => (k ρ h).bind fun z h => .ok [x, y, z] h).bind fun vs h => (if fits vs.length then .ok (.tup vs) h else .bad : Res Val).bind fun v h => ok? (setT (.tp [i, j, l]) v ρ) (fun ρ => (.nx, ρ)) h)
    (d : Ds T p D σ H) : tPar3 i j l (tCons (De T f) (tCons (De T g) (tCons (De T k) tNil))) D σ H := by
  obtain ⟨ι, ρ, h, fr, h', a, e, q⟩ := d
  rw [hp] at e
  obtain ⟨vs, h4, e0, e⟩ := bind_ok e
  obtain ⟨x, h1, e1, e0⟩ := bind_ok e0
  obtain ⟨y, h2, e2, e0⟩ := bind_ok e0
  obtain ⟨z, h3, e3, e0⟩ := bind_ok e0
  cases e0
  obtain ⟨ρ', eρ, rfl, rfl⟩ := ok?_ok (show ok? (setT (.tp [i, j, l]) (.tup [x, y, z]) ρ) (fun ρ => (Flow.nx, ρ)) _ = _ from e)
  cases eρ
  exact De.go a e1 fun ι1 H1 V1 x1 a1 r1 => De.go a1 e2 fun ι2 H2 V2 x2 a2 r2 => De.go a2 e3 fun ι3 H3 V3 x3 a3 r3 => ⟨V1, V2, V3, rfl, q ι3 H3 _ ((x1.trans x2).trans x3) (set_nm (set_nm (set_nm a3 ((r1.mono x2).mono x3)) (r2.mono x3)) r3)⟩
theorem ds_setIx {f o i : Env → Hip → Res Val} {p : SF} (hp : ∀ ρ h, p ρ h = (f ρ h).bind fun v h => (o ρ h).bind fun x h => (i ρ h).bind fun k h => (putIx x k v h).bind fun _ h => .ok (.nx, ρ) h) (d : Ds T p D σ H) :
    tAsg (De T f) (gSub (De T o) (De T i) (rPut T)) D σ H := by
  obtain ⟨ι, ρ, h, fr, h', a, e, q⟩ := d
  rw [hp] at e
  obtain ⟨v, h1, e1, e⟩ := bind_ok e
  obtain ⟨x, h2, e2, e⟩ := bind_ok e
  obtain ⟨k, h3, e3, e⟩ := bind_ok e
  obtain ⟨_, h4, e4, e⟩ := bind_ok e
  cases e
  exact De.go a e1 fun ι1 H1 V1 x1 a1 r1 => De.go a1 e2 fun ι2 H2 V2 x2 a2 r2 => De.go a2 e3 fun ι3 H3 V3 x3 a3 r3 =>
    ⟨ι3, h3, x, k, v, h', a3.sim, r2.mono x3, r3, (r1.mono x2).mono x3, e4, fun ι4 H4 x4 s4 => q ι4 H4 σ (((x1.trans x2).trans x3).trans x4) (a3.to x4 s4)⟩
theorem ds_setIx2 (hK : K = T.K) {f g o i o2 i2 : Env → Hip → Res Val} {p : SF} (hp : ∀ ρ h, p ρ h = (f ρ h).bind fun v h => (g ρ h).bind fun u h => (o ρ h).bind fun x h => (i ρ h).bind fun k h => (putIx x k v h).bind fun _ h =>
      (o2 ρ h).bind fun y h => (i2 ρ h).bind fun l h => (putIx y l u h).bind fun _ h => .ok (.nx, ρ) h) (d : Ds T p D σ H) :
    tAsg (tTup (tCons (De T f) (tCons (De T g) tNil))) (gTup K 2 (gCons (gSub (De T o) (De T i) (rPut T)) (gCons (gSub (De T o2) (De T i2) (rPut T)) gNil))) D σ H := by
  obtain ⟨ι, ρ, h, fr, h', a, e, q⟩ := d
  rw [hp] at e
  obtain ⟨v, h1, e1, e⟩ := bind_ok e
  obtain ⟨u, h2, e2, e⟩ := bind_ok e
  obtain ⟨x, h3, e3, e⟩ := bind_ok e
  obtain ⟨k, h4, e4, e⟩ := bind_ok e
  obtain ⟨_, h5, e5, e⟩ := bind_ok e
  obtain ⟨y, h6, e6, e⟩ := bind_ok e
  obtain ⟨l, h7, e7, e⟩ := bind_ok e
  obtain ⟨_, h8, e8, e⟩ := bind_ok e
  cases e
  refine De.go a e1 fun ι1 H1 V1 x1 a1 r1 => De.go a1 e2 fun ι2 H2 V2 x2 a2 r2 => ⟨by show 2 ≤ sizeLine; decide, fun pt hpt => ?_⟩
  have xt : Ext ι2 H2 ι2 (upd H2 pt (.tup [V1, V2])) := Ext.laid hpt
  have at_ := a2.to xt (a2.sim.laid hpt)
  refine ⟨pt, [V1, V2], rfl, SqT.of upd_same, rfl, V1, [V2], rfl, ?_⟩
  refine De.go at_ e3 fun ι3 H3 V3 x3 a3 r3 => De.go a3 e4 fun ι4 H4 V4 x4 a4 r4 => ?_
  have m14 := (x2.trans xt).trans (x3.trans x4)
  refine ⟨ι4, h4, x, k, v, h5, a4.sim, r3.mono x4, r4, r1.mono m14, e5, fun ι5 H5 x5 s5 => ⟨V2, [], rfl, ?_⟩⟩
  have a5 := a4.to x5 s5
  refine De.go a5 e6 fun ι6 H6 V6 x6 a6 r6 => De.go a6 e7 fun ι7 H7 V7 x7 a7 r7 => ?_
  have m27 := (xt.trans (x3.trans x4)).trans ((x5.trans x6).trans x7)
  refine ⟨ι7, h7, y, l, u, h', a7.sim, r6.mono x7, r7, r2.mono m27, e8, fun ι8 H8 x8 s8 => ⟨rfl, ?_⟩⟩
  exact q ι8 H8 σ ((x1.trans x2).trans (m27.trans x8)) (a7.to x8 s8)
theorem ds_setFld {P : Pg} {f o : Env → Hip → Res Val} {n : Nat} {p : SF} (hp : ∀ ρ h, p ρ h = (f ρ h).bind fun v h => (o ρ h).bind fun x h => match x with
    | .ref a => match h[a]? with
      | some (.ins c fs) => if P.fo c n && decide (fs.length < 900) then .ok (.nx, ρ) (h.set a (.ins c (fput n v fs))) else .bad
      | _ => .bad
    | _ => .bad) (ob : ∀ c C, T.cl c = some C → Cls K C) (fo : ∀ c C f, T.cl c = some C → P.fo c f = true → NoAttr K C (T.nm f)) (d : Ds T p D σ H) : sFld K (De T o) (De T f) (T.nm n) D σ H := by
  obtain ⟨ι, ρ, h, fr, h', a, e, q⟩ := d
  rw [hp] at e
  obtain ⟨v, h1, e1, e⟩ := bind_ok e
  obtain ⟨x, h2, e2, e⟩ := bind_ok e
  refine De.go a e1 fun ι1 H1 V1 x1 a1 r1 => De.go a1 e2 fun ι2 H2 V2 x2 a2 r2 => ?_
  split at e
  case h_2 => cases e
  split at e
  case h_2 => cases e
  rename_i i _ c fs ei
  split at e
  case isFalse => cases e
  rename_i hf
  rw [Bool.and_eq_true, decide_eq_true_eq] at hf
  cases e
  obtain ⟨b, C, dx, gs, rfl, eb, eH, ec, rf⟩ := sim_ins a2.sim r2 ei
  have hw : Ext ι2 H2 ι2 (upd H2 b (.ins C dx (putF (T.nm n) V1 gs))) := Ext.wr (List.mem_of_getElem? eb) (by rw [eH]; exact True.intro)
  refine ⟨b, C, dx, gs, rfl, eH, ob c C ec, fo c C n ec hf.1, by have := repF_length rf; omega, q ι2 _ σ ((x1.trans x2).trans hw) (a2.to hw (a2.sim.wr eb (.ins upd_same ec ((repF_put rf (r1.mono x2)).mono hw))))⟩
theorem ds_aug {i : Nat} {o : Op2} {f : Env → Hip → Res Val} {p : SF} (hp : ∀ ρ h, p ρ h = match ρ[i]? with
    | some (some x) => (f ρ h).bind fun y h => (augOp o x y h).bind fun z h => .ok (.nx, ρ.set i (some z)) h
    | _ => .bad) (d : Ds T p D σ H) : tAug i (De T f) (rO2 T (augOp o)) D σ H := by
  obtain ⟨ι, ρ, h, fr, h', a, e, q⟩ := d
  rw [hp] at e
  split at e
  case h_2 => cases e
  rename_i x ex
  obtain ⟨y, h1, e1, e⟩ := bind_ok e
  obtain ⟨z, h2, e2, e⟩ := bind_ok e
  cases e
  obtain ⟨u, eu, ru⟩ := a.env.at_ i x ex
  exact ⟨u, eu, De.go a e1 fun ι1 H1 V1 x1 a1 r1 => ⟨ι1, h1, x, y, z, h', a1.sim, ru.mono x1, r1, e2, fun ι2 H2 V2 x2 s2 r2 => q ι2 H2 _ (x1.trans x2) (set_nm (a1.to x2 s2) r2)⟩⟩
theorem ds_for {t : Tg} {f : Env → Hip → Res Wk} {b p : SF} (hp : ∀ ρ h, p ρ h = (f ρ h).bind fun k h => forL k (loopStep t b) 0 k.items ρ h) (d : Ds T p D σ H) : tFor (Di T f) (gT K t) (Ds T b) D σ H := by
  obtain ⟨ι0, ρ0, h0, fr, hE, a, e, q⟩ := d
  rw [hp] at e
  obtain ⟨k, h1, e1, e⟩ := bind_ok e
  refine ⟨ι0, ρ0, h0, k, h1, a, e1, fun ι1 H1 J x1 a1 wk => ?_⟩
  have q1 := q.mono x1
  let W : Nat → Nat → L2.St → Hp → Prop := fun i m σ H => ∃ ι ρ h, Ext ι1 H1 ι H ∧ At T ι ρ h σ H ∧ forL k (loopStep t b) i (k.items.drop i) ρ h = .ok fr hE ∧ i ≤ k.items.length ∧ m = k.items.length - i
  refine ⟨W, ⟨k.items.length, ι1, ρ0, h1, .refl, a1, e, Nat.zero_le _, rfl⟩, ?_⟩
  rintro i m σ2 H2 ⟨ι2, ρ2, h2, x2, a2, el, hi, rfl⟩
  have hat : k.at i h2 = true := by
    cases z : k.items.drop i <;> (rw [z] at el; unfold forL at el; split at el <;> first | assumption | cases el)
  obtain ⟨w1, w2⟩ := wk i ι2 H2 h2 x2 a2.sim hat hi
  by_cases hlt : i < k.items.length
  · refine .inr ?_
    rw [List.drop_eq_getElem_cons hlt] at el
    unfold forL at el
    rw [if_pos hat] at el
    obtain ⟨go, yl⟩ := w2 _ (List.getElem?_eq_getElem hlt)
    refine ⟨go, W (i + 1) (k.items.length - (i + 1)), fun σ' H' w => ⟨_, by omega, w⟩, fun x H' y => ?_⟩
    obtain ⟨y1, y2, y3⟩ := yl x H' y
    cases es : loopStep t b k.items[i] ρ2 h2 with
    | bad => rw [es] at el; cases el
    | ok fr2 h3 =>
      rw [es] at el
      obtain ⟨fl, ρ3⟩ := fr2
      unfold loopStep at es
      split at es
      case h_2 => cases es
      rename_i ρ' eρ
      refine set_ok (own := []) (a2.to y1 y2) y3 eρ fun σ' a3 _ => ⟨ι2, ρ', h2, (fl, ρ3), h3, a3, es, fun ι4 H4 σ4 x4 a4 => ?_⟩
      have x14 := x2.trans (y1.trans x4)
      cases fl with
      | nx => exact ⟨ι4, ρ3, h3, x14, a4, el, hlt, rfl⟩
      | cont => exact ⟨ι4, ρ3, h3, x14, a4, el, hlt, rfl⟩
      | brk => cases el; exact q1 ι4 H4 σ4 x14 a4
      | ret v => cases el; exact q1 ι4 H4 σ4 x14 a4
  · have hi2 : i = k.items.length := by omega
    have en : k.items[i]? = none := List.getElem?_eq_none (by omega)
    refine .inl ⟨w1 en, ?_⟩
    rw [List.drop_eq_nil_of_le (by omega)] at el
    unfold forL at el
    rw [if_pos hat] at el
    cases el
    exact q1 ι2 H2 σ2 x2 a2
theorem ds_while {n : Nat} {c : Env → Hip → Res Val} {b p : SF} (hp : ∀ ρ h, p ρ h = whL (testB c) b n ρ h) (d : Ds T p D σ H) : tWhile (Dt T c) (Ds T b) D σ H := by
  obtain ⟨ι0, ρ0, h0, fr, hE, a, e, q⟩ := d
  rw [hp] at e
  let W : Nat → L2.St → Hp → Prop := fun m σ H => ∃ ι ρ h, Ext ι0 H ι H ∧ At T ι ρ h σ H ∧ whL (testB c) b m ρ h = .ok fr hE
  refine ⟨fun m σ1 H1 => ∃ ι ρ h, Ext ι0 H ι H1 ∧ At T ι ρ h σ1 H1 ∧ whL (testB c) b m ρ h = .ok fr hE, ⟨n, ι0, ρ0, h0, .refl, a, e⟩, ?_⟩
  rintro m σ1 H1 ⟨ι1, ρ1, h1, x1, a1, el⟩
  cases m with
  | zero => cases el
  | succ m =>
    unfold whL at el
    cases ec : testB c ρ1 h1 with
    | bad => rw [ec] at el; cases el
    | ok bb h2 =>
      rw [ec] at el
      have ec' : c ρ1 h1 = .ok (.bl bb) h2 := by
        obtain ⟨x, h3, e3, e4⟩ := bind_ok (show (c ρ1 h1).bind _ = _ from ec)
        split at e4
        · cases e4; exact e3
        · cases e4
      refine Dt.go a1 ec' fun ι2 H2 x2 a2 => ?_
      cases bb with
      | false =>
        rw [if_neg Bool.false_ne_true]
        cases el
        exact q ι2 H2 σ1 (x1.trans x2) a2
      | true =>
        rw [if_pos rfl]
        dsimp only at el
        refine ⟨fun σ' H' => ∃ ι ρ h, Ext ι0 H ι H' ∧ At T ι ρ h σ' H' ∧ whL (testB c) b m ρ h = .ok fr hE, fun σ' H' w => ⟨m, Nat.lt_succ_self m, w⟩, ?_⟩
        cases es : b ρ1 h2 with
        | bad => rw [es] at el; cases el
        | ok fr2 h3 =>
          rw [es] at el
          obtain ⟨fl, ρ3⟩ := fr2
          refine ⟨ι2, ρ1, h2, (fl, ρ3), h3, a2, es, fun ι4 H4 σ4 x4 a4 => ?_⟩
          have x14 := x1.trans (x2.trans x4)
          cases fl with
          | nx => exact ⟨ι4, ρ3, h3, x14, a4, el⟩
          | cont => exact ⟨ι4, ρ3, h3, x14, a4, el⟩
          | brk => cases el; exact q ι4 H4 σ4 x14 a4
          | ret v => cases el; exact q ι4 H4 σ4 x14 a4
end
end Z

set_option maxRecDepth 100000
/-! Z17: does a text of the small language tell what the program's text says? A check by evaluation. -/
namespace Z
open PySem PySem.Spec PyProof.Rows
open L2

/-- the names of the module: functions, classes, constants; calls by keyword; attributes by number -/
structure Gt where
  fn : List (Str × Nat)
  cls : List (Str × Nat)
  gv : List (Str × Val)
  kw : List (Nat × List Str × List Nat)
  nm : Nat → Str
/-- a def's slots and scope -/
structure CC where
  N : List Str
  sc : Scope
  bl : Option Scope := none

def isK (C : CC) (x : Str) (p : NameKind → Bool) : Bool := match C.sc.names.lookup x with
  | some k => p k
  | none => false
def okVar (C : CC) (x : Str) (i : Nat) : Bool := decide (C.N[i]? = some x) && (isK C x fun k => match k with | .local | .cell | .free => true | _ => false) && !(x == ("__debug__" : Str)) && !(x == ("__classdict__" : Str))
def okLoc (C : CC) (x : Str) (i : Nat) : Bool := decide (C.N[i]? = some x) && (isK C x fun k => match k with | .local => true | _ => false)
/-- may the name be stored -/
def stOk (C : CC) (x : Str) : Bool := match C.bl with
  | none => true
  | some s => s.names.lookup x == some .cell
def okSto (C : CC) (x : Str) (i : Nat) : Bool := decide (C.N[i]? = some x) && (isK C x fun k => match k with | .local => true | .cell => stOk C x | _ => false)
def okGl (C : CC) (x : Str) : Bool := (isK C x fun k => match k with | .globalImplicit => true | _ => false) && !(x == ("__debug__" : Str))
def opOf : Op2 → Operator
  | .add => .Add
  | .sub => .Sub
  | .mul => .Mult
  | .fdiv => .FloorDiv
  | .mod => .Mod
  | .pow => .Pow
def copOf : Cop → CmpOp
  | .eq => .Eq
  | .ne => .NotEq
  | .lt => .Lt
  | .le => .LtE
  | .gt => .Gt
  | .ge => .GtE
  | .isN => .Is
  | .notN => .IsNot
  | .isin => .In
  | .notin => .NotIn
def okOp (o : Op2) (p : Operator) : Bool := match o, p with
  | .add, .Add | .sub, .Sub | .mul, .Mult | .fdiv, .FloorDiv | .mod, .Mod | .pow, .Pow => true
  | _, _ => false
def okCop (o : Cop) (p : CmpOp) : Bool := match o, p with
  | .eq, .Eq | .ne, .NotEq | .lt, .Lt | .le, .LtE | .gt, .Gt | .ge, .GtE | .isN, .Is | .notN, .IsNot | .isin, .In | .notin, .NotIn => true
  | _, _ => false
def okCon (G : Gt) (C : CC) (v : Val) (e : Expr) : Bool := match e with
  | .Constant (.int j) _ _ => (match v with | .int i => decide (i = j) | _ => false)
  | .Constant (.bool c) _ _ => (match v with | .bl b => b == c | _ => false)
  | .Constant .none _ _ => (match v with | .non => true | _ => false)
  | .Constant (.str y) _ _ => (match v with | .str x => decide (x = y) | _ => false)
  | .Name x _ => okGl C x && decide (G.gv.lookup x = some v)
  | _ => false
def noSlice (e : Expr) : Bool := match e with
  | .Slice .. => false
  | _ => true
def noSet (e : Expr) : Bool := match e with
  | .Set .. => false
  | _ => true
/-- built-in functions and types by name -/
def biFn : Bi → Option (Str × String)
  | .len => some ("len", "len")
  | .max2 => some ("max", "max")
  | .min2 => some ("min", "min")
  | .sorted => some ("sorted", "sorted")
  | .sum => some ("sum", "sum")
  | .repr => some ("repr", "repr")
  | .all => some ("all", "all")
  | .any => some ("any", "any")
  | .abs => some ("abs", "abs")
  | .divmod => some ("divmod", "divmod")
  | .max1 => some ("max", "max")
  | _ => none
def biTy : Bi → Option (Str × String)
  | .int1 => some ("int", "int")
  | .tupleOf => some ("tuple", "tuple")
  | .listOf => some ("list", "list")
  | _ => none
def biIs : Bi → Option (Str × String)
  | .isInt => some ("int", "int")
  | .isBool => some ("bool", "bool")
  | .isTuple => some ("tuple", "tuple")
  | .isStr => some ("str", "str")
  | _ => none
def bmName : Bm → Str
  | .append => "append"
  | .index => "index"
def okKey (k : Val) (e : Option Expr) : Bool := match e with
  | some (.Constant (.int j) _ _) => (match k with | .int i => decide (i = j) | _ => false)
  | some (.Constant (.str y) _ _) => (match k with | .str x => decide (x = y) | _ => false)
  | _ => false
def okKeys : List Val → List (Option Expr) → Bool
  | [], [] => true
  | k :: ks, e :: es => okKey k e && okKeys ks es
  | _, _ => false
/-- own slots with their names -/
def ownN (C : CC) (own : List Nat) : List (Str × Nat) := own.filterMap fun i => (C.N[i]?).map fun x => (x, i)
def CC.in_ (C : CC) (sc : Scope) : CC := ⟨C.N, relS sc C.sc, some sc⟩
def okName (C : CC) (i : Nat) (e : Expr) : Bool := match e with
  | .Name x _ => okSto C x i
  | _ => false
def okNames (C : CC) : List Nat → List Expr → Bool
  | [], [] => true
  | i :: is, e :: es => okName C i e && okNames C is es
  | _, _ => false
def okT (C : CC) (t : Tg) (e : Expr) : Bool := match t, e with
  | .nm i, e => okName C i e
  | .tp is, .Tuple es _ _ => okNames C is es
  | _, _ => false
def isTup (e : Expr) : Bool := match e with
  | .Tuple .. => true
  | _ => false
/-- a comprehension's own parts -/
def okBlk (C : CC) (own : List Nat) (t : Tg) (tg : Expr) (scope : Scope) : Bool :=
  decide ((ownN C own).map (·.2) = own) && blkC C.N C.sc scope (ownN C own) && okT (C.in_ scope) t tg && (tgIs t).all (own.contains ·)
def kwVals (kws : List Keyword) : List Expr := kws.map (·.value)

mutual
def okE (G : Gt) : IE → CC → Expr → Bool
  | .var i, C, e => (match e with
    | .Name x _ => okVar C x i
    | _ => false)
  | .con v, C, e => okCon G C v e
  | .tup es, C, e => (match e with
    | .Tuple xs _ _ => plainEs xs && okEs G es C xs
    | _ => false)
  | .lst es, C, e => (match e with
    | .List xs _ => plainEs xs && okEs G es C xs
    | _ => false)
  | .dct ks es, C, e => (match e with
    | .Dict keys vals _ => okKeys ks keys && okEs G es C vals && decide (keys.length = vals.length) && decide (keys.length ≤ 15)
    | _ => false)
  | .bin o a b, C, e => (match e with
    | .BinOp x op y _ => okOp o op && okE G a C x && okE G b C y
    | _ => false)
  | .neg a, C, e => (match e with
    | .UnaryOp .USub x _ => okE G a C x
    | _ => false)
  | .cmp o a b, C, e => (match e with
    | .Compare x [op] [y] _ => okCop o op && !behindInMarks op y && okE G a C x && okE G b C y
    | _ => false)
  | .chain o o' a b c, C, e => (match e with
    | .Compare x [op, op'] [y, z] _ => okCop o op && okCop o' op' && !lastMarks [op, op'] [y, z] && okE G a C x && okE G b C y && okE G c C z
    | _ => false)
  | .and2 a b, C, e => (match e with
    | .BoolOp .And (x :: y :: r) p => okE G a C x && (match r with
      | [] => okE G b C y
      | _ => okE G b C (.BoolOp .And (y :: r) p))
    | _ => false)
  | .or2 a b, C, e => (match e with
    | .BoolOp .Or (x :: y :: r) p => okE G a C x && (match r with
      | [] => okE G b C y
      | _ => okE G b C (.BoolOp .Or (y :: r) p))
    | _ => false)
  | .not1 a, C, e => (match e with
    | .UnaryOp .Not x _ => okE G a C x
    | _ => false)
  | .ite c a b, C, e => (match e with
    | .IfExp x y z _ => okE G c C x && okE G a C y && okE G b C z
    | _ => false)
  | .ix a b, C, e => (match e with
    | .Subscript x y _ => noSlice y && okE G a C x && okE G b C y
    | _ => false)
  | .sl a lo hi, C, e => (match e with
    | .Subscript x (.Slice l u none _) _ => okE G a C x && okO G lo C l && okO G hi C u
    | _ => false)
  | .rev _, _, _ => false
  | .call f es, C, e => (match e with
    | .Call (.Name x _) xs [] _ => okGl C x && decide (G.fn.lookup x = some f) && plainEs xs && okEs G es C xs
    | _ => false)
  | .callK f perm es, C, e => (match e with
    | .Call (.Name x _) [] kws _ => okGl C x && decide (G.fn.lookup x = some f) && (match kwNames kws with
      | some ks => G.kw.contains (f, ks, perm)
      | none => false) && okEs G es C (kwVals kws)
    | _ => false)
  | .meth o m es, C, e => (match e with
    | .Call (.Attribute y a apos) xs [] pos => decide (a = G.nm m) && plainEs xs && baseOk y && decide (xs.length < 30) && (apos.endLine == pos.line) && okE G o C y && okEs G es C xs
    | _ => false)
  | .make c es, C, e => (match e with
    | .Call (.Name x _) xs [] _ => okGl C x && decide (G.cls.lookup x = some c) && plainEs xs && okEs G es C xs
    | _ => false)
  | .bi b es, C, e => (match e with
    | .Call (.Name x _) (y :: ys) [] _ => okGl C x && (match biFn b, biTy b, biIs b with
      | some (n, _), _, _ => decide (x = n) && plainEs (y :: ys) && okEs G es C (y :: ys)
      | _, some (n, _), _ => decide (x = n) && plainEs (y :: ys) && okEs G es C (y :: ys)
      | _, _, some (n, _) => decide (x = "isinstance") && (match ys with
        | [.Name z _] => okGl C z && decide (z = n) && plainEs [y] && okEs G es C [y]
        | _ => false)
      | _, _, _ => false)
    | _ => false)
  | .bm b o es, C, e => (match e with
    | .Call (.Attribute y a apos) (x :: xs) [] pos => decide (a = bmName b) && plainEs (x :: xs) && baseOk y && decide ((x :: xs).length < 30) && (apos.endLine == pos.line) && okE G o C y && okEs G es C (x :: xs)
    | _ => false)
  | .fld o f, C, e => (match e with
    | .Attribute y a _ => decide (a = G.nm f) && baseOk y && okE G o C y
    | _ => false)
  | .lrange es, C, e => (match e with
    | .Call (.Name l _) [.Call (.Name r _) xs [] _] [] _ => okGl C l && okGl C r && decide (l = "list") && decide (r = "range") && plainEs xs && decide (xs.length = 1 ∨ xs.length = 2) && okEs G es C xs
    | _ => false)
  | .bad, _, _ => true
  | .dget3 d k x, C, e => (match e with
    | .Call (.Attribute y a apos) [z, u] [] pos => decide (a = "get") && plainEs [z, u] && baseOk y && (apos.endLine == pos.line) && okE G d C y && okE G k C z && okE G x C u
    | _ => false)
  | .dc own t it c ek el, C, e => (match e with
    | .DictComp y x [⟨tg, iter, ifs, 0⟩] scope _ => okBlk C own t tg scope && okI G it C tg iter && okC G c (C.in_ scope) ifs && okE G ek (C.in_ scope) y && okE G el (C.in_ scope) x
    | _ => false)
  | .lenset a, C, e => (match e with
    | .Call (.Name l _) [.Call (.Name r _) [y] [] _] [] _ => okGl C l && okGl C r && decide (l = "len") && decide (r = "set") && plainEs [y] && okE G a C y
    | _ => false)
  | .lc own t it c el, C, e => (match e with
    | .ListComp x [⟨tg, iter, ifs, 0⟩] scope _ => okBlk C own t tg scope && okI G it C tg iter && okC G c (C.in_ scope) ifs && okE G el (C.in_ scope) x
    | _ => false)
  | .sc own t it c el, C, e => (match e with
    | .SetComp x [⟨tg, iter, ifs, 0⟩] scope _ => okBlk C own t tg scope && okI G it C tg iter && okC G c (C.in_ scope) ifs && okE G el (C.in_ scope) x
    | _ => false)
def okEs (G : Gt) : IEs → CC → List Expr → Bool
  | .nil, _, xs => (match xs with
    | [] => true
    | _ => false)
  | .cons e es, C, xs => (match xs with
    | x :: xs => okE G e C x && okEs G es C xs
    | _ => false)
def okO (G : Gt) : IO → CC → Option Expr → Bool
  | .no, _, x => (match x with
    | none => true
    | _ => false)
  | .so e, C, x => (match x with
    | some x => okE G e C x
    | _ => false)
/-- a comprehension's tests -/
def okC (G : Gt) : IO → CC → List Expr → Bool
  | .no, _, x => (match x with
    | [] => true
    | _ => false)
  | .so e, C, x => (match x with
    | [x] => okE G e C x
    | _ => false)
def okI (G : Gt) : IIt → CC → Expr → Expr → Bool
  | .seq e, C, tg, x => noSet x && okE G e C x
  | .range es, C, tg, x => (match x with
    | .Call (.Name r _) xs [] _ => okGl C r && decide (r = "range") && plainEs xs && decide (xs.length = 1 ∨ xs.length = 2) && okEs G es C xs
    | _ => false)
  | .enum e, C, tg, x => isTup tg && (match x with
    | .Call (.Name r _) [y] [] _ => okGl C r && decide (r = "enumerate") && plainEs [y] && okE G e C y
    | _ => false)
  | .zip a b, C, tg, x => isTup tg && (match x with
    | .Call (.Name r _) [y, z] [] _ => okGl C r && decide (r = "zip") && plainEs [y, z] && okE G a C y && okE G b C z
    | _ => false)
end
end Z

set_option maxRecDepth 100000
/-! Z18: what the check has passed is so: expressions. -/
namespace Z
open PySem PySem.Spec PyProof.Rows
open L2

def bnames : List Str := ["len", "max", "min", "int", "tuple", "list", "sorted", "sum", "isinstance", "repr", "all", "any", "abs", "range", "enumerate", "zip", "bool", "str", "divmod", "set"]
/-- a def of the module, as the names tell it -/
structure FnG (G : Gt) (T : Tb) (cf : CF) (X : Cx) (x : Str) (f : Nat) : Prop where
  ex : ∃ a fd k ps, X.mg x = some (.ref a) ∧ PySem.W.keepIn X.K (.ref a) = true ∧ FnC X.prog X.w X.K X.mg X.base k a fd ps (rON T (cf f)) ∧ Rm k X.A ∧ Binds X.K fd ps [] ∧
    ∀ ks perm, G.kw.contains (f, ks, perm) = true → KwB X.K fd ps ks perm
structure ClG (T : Tb) (P : Pg) (cf : CF) (X : Cx) (x : Str) (c : Nat) : Prop where
  ex : ∃ C f a fd k ps, X.mg x = some (.ref C) ∧ T.cl c = some C ∧ P.ini c = some f ∧ Mk X.K C a ∧ FnC X.prog X.w X.K X.mg X.base k a fd ps (rON T (cf f)) ∧ Rm (k + 1) X.A ∧ Binds X.K fd ps []
structure GvG (T : Tb) (X : Cx) (x : Str) (v : Val) : Prop where
  ex : ∃ u V, X.mg x = some u ∧ RelV V u ∧ ∀ ι H, Rep T ι H v V
/-- the context is as the tables tell -/
structure Gd (G : Gt) (T : Tb) (P : Pg) (cf : CF) (C : CC) (X : Cx) : Prop where
  cal : Cal T X
  N : X.N = C.N
  nd : C.N.Nodup
  sc : X.env.scope = C.sc
  kd : C.sc.kind = .function
  xe : X.xe = fun _ _ => False
  st : ∀ x, stOk C x = true → X.fn x = true
  fn : ∀ x f, G.fn.lookup x = some f → FnG G T cf X x f
  cls : ∀ x c, G.cls.lookup x = some c → ClG T P cf X x c
  gv : ∀ x v, G.gv.lookup x = some v → GvG T X x v
  mt : ∀ c C m f, T.cl c = some C → P.mt c m = some f → MOk X C (T.nm m) (rON T (cf f))
  ob : ∀ c C, T.cl c = some C → Cls X.K C
  fo : ∀ c C f, T.cl c = some C → P.fo c f = true → NoAttr X.K C (T.nm f)
  nb : ∀ x ∈ bnames, X.mg x = none
  nm : G.nm = T.nm

section
variable {G : Gt} {T : Tb} {P : Pg} {cf : CF} {C : CC} {X : Cx}
theorem Gd.blk (g : Gd G T P cf C X) {scope : Scope} (hk : scope.kind = .function) (s : Shared) (H : Hp) (c : Addr) (cl : List (Str × Addr)) (fp : List Addr) : Gd G T P cf (C.in_ scope) (X.blk s H scope (compEnvC scope cl c X.env) fp) where
  cal := ⟨g.cal.K, g.cal.w, g.cal.calm, g.cal.un, g.cal.gd⟩
  N := g.N
  nd := g.nd
  sc := by show relS scope X.env.scope = relS scope C.sc; rw [g.sc]
  kd := hk
  xe := rfl
  st := fun x h => h
  fn := fun x f e => let ⟨a, fd, k, ps, h⟩ := (g.fn x f e).ex; ⟨a, fd, k, ps, h⟩
  cls := fun x f e => let ⟨a, b, c, d, i, j, h⟩ := (g.cls x f e).ex; ⟨a, b, c, d, i, j, h⟩
  gv := fun x f e => let ⟨a, b, h⟩ := (g.gv x f e).ex; ⟨a, b, h⟩
  mt := fun a b c d e f => let ⟨i, j, k, l, h⟩ := (g.mt a b c d e f).ex; ⟨i, j, k, l, h⟩
  ob := g.ob
  fo := g.fo
  nb := g.nb
  nm := g.nm
theorem isK_ok {x : Str} {p : NameKind → Bool} (h : isK C x p = true) : ∃ k, C.sc.names.lookup x = some k ∧ p k = true := by
  unfold isK at h
  split at h
  · exact ⟨_, by assumption, h⟩
  · cases h
theorem okVar_ok (g : Gd G T P cf C X) {x : Str} {i : Nat} (h : okVar C x i = true) : X.N[i]? = some x ∧ Vis X.env.scope x ∧ (x == ("__debug__" : Str)) = false ∧ (x == ("__classdict__" : Str)) = false := by
  unfold okVar at h
  simp only [Bool.and_eq_true, decide_eq_true_eq, Bool.not_eq_true'] at h
  obtain ⟨⟨⟨h1, h2⟩, h3⟩, h4⟩ := h
  obtain ⟨k, e, hk⟩ := isK_ok h2
  refine ⟨by rw [g.N]; exact h1, ?_, h3, h4⟩
  unfold Vis
  rw [g.sc, e]
  cases k <;> first | exact .inl rfl | exact .inr (.inl rfl) | exact .inr (.inr rfl) | cases hk
theorem okLoc_ok (g : Gd G T P cf C X) {x : Str} {i : Nat} (h : okLoc C x i = true) : X.N[i]? = some x ∧ X.env.scope.names.lookup x = some .local := by
  unfold okLoc at h
  simp only [Bool.and_eq_true, decide_eq_true_eq] at h
  obtain ⟨k, e, hk⟩ := isK_ok h.2
  refine ⟨by rw [g.N]; exact h.1, ?_⟩
  rw [g.sc, e]
  cases k <;> first | rfl | cases hk
theorem okSto_ok (g : Gd G T P cf C X) {x : Str} {i : Nat} (h : okSto C x i = true) : X.N[i]? = some x ∧ L2.Loc X.env.scope x ∧ (X.fn x = true ∨ X.env.scope.names.lookup x = some .local) := by
  unfold okSto at h
  simp only [Bool.and_eq_true, decide_eq_true_eq] at h
  obtain ⟨k, e, hk⟩ := isK_ok h.2
  refine ⟨by rw [g.N]; exact h.1, ?_⟩
  unfold L2.Loc
  rw [g.sc, e]
  cases k with
  | «local» => exact ⟨.inl rfl, .inr rfl⟩
  | cell => exact ⟨.inr rfl, .inl (g.st x hk)⟩
  | _ => cases hk
theorem okGl_ok (g : Gd G T P cf C X) {x : Str} (h : okGl C x = true) : Gl X x ∧ (x == ("__debug__" : Str)) = false := by
  unfold okGl at h
  simp only [Bool.and_eq_true, Bool.not_eq_true'] at h
  obtain ⟨k, e, hk⟩ := isK_ok h.1
  refine ⟨?_, h.2⟩
  show X.env.scope.names.lookup x = some .globalImplicit
  rw [g.sc, e]
  cases k <;> first | rfl | cases hk
theorem okOp_eq {o : Op2} {p : Operator} (h : okOp o p = true) : p = opOf o := by
  cases o <;> cases p <;> first | rfl | cases h
theorem okCop_eq {o : Cop} {p : CmpOp} (h : okCop o p = true) : p = copOf o := by
  cases o <;> cases p <;> first | rfl | cases h
theorem okOp_ok (c : Cal T X) {o : Op2} {p : Operator} (h : okOp o p = true) : OpR X (binaryOp p) (rO2 T (binOp o)) := by
  rw [okOp_eq h]
  cases o with
  | add => exact o_add c.K
  | sub => exact o_sub
  | mul => exact o_mul
  | fdiv => exact o_fdiv
  | mod => exact o_mod
  | pow => exact o_pow
theorem okCop_ok (c : Cal T X) {o : Cop} {p : CmpOp} (h : okCop o p = true) : OpR X (compareOp p) (rO2 T (cmpF o)) := by
  have hu := c.un
  rw [okCop_eq h]
  cases o with
  | eq => exact c_eq c.K (by omega)
  | ne => exact c_ne c.K (by omega)
  | lt => exact c_lt
  | le => exact c_le
  | gt => exact c_gt
  | ge => exact c_ge
  | isN => exact c_isN
  | notN => exact c_notN
  | isin => exact c_in c
  | notin => exact c_notin c
theorem con_ok (g : Gd G T P cf C X) {v : Val} {e : Expr} (h : okCon G C v e = true) : PE X e (De T (evE P cf (.con v))) := by
  unfold okCon at h
  split at h
  · split at h
    · cases of_decide_eq_true h
      exact PE_imp pe_int fun σ H Q d => d_con (fun ι H => .int _) (fun _ _ => rfl) d
    · cases h
  · split at h
    · cases eq_of_beq h
      exact PE_imp pe_bl fun σ H Q d => d_con (fun ι H => .bl _) (fun _ _ => rfl) d
    · cases h
  · split at h
    · exact PE_imp pe_non fun σ H Q d => d_con (fun ι H => .non) (fun _ _ => rfl) d
    · cases h
  · split at h
    · cases of_decide_eq_true h
      exact PE_imp pe_str fun σ H Q d => d_con (fun ι H => .str _) (fun _ _ => rfl) d
    · cases h
  · rw [Bool.and_eq_true, decide_eq_true_eq] at h
    obtain ⟨u, V, h1, h2, h3⟩ := (g.gv _ _ h.2).ex
    obtain ⟨g1, g2⟩ := okGl_ok g h.1
    exact PE_imp (pe_glob g1 h1 h2 g2) fun σ H Q d => d_con h3 (fun _ _ => rfl) d
  · cases h
theorem key_ok {k : Val} {e : Option Expr} (h : okKey k e = true) : ∃ x, e = some x ∧ PE X x (L2.tC (keyV k)) := by
  unfold okKey at h
  split at h
  · split at h
    · cases of_decide_eq_true h; exact ⟨_, rfl, pe_int⟩
    · cases h
  · split at h
    · cases of_decide_eq_true h; exact ⟨_, rfl, pe_str⟩
    · cases h
  · cases h
theorem keys_ok : ∀ {ks : List Val} {keys : List (Option Expr)}, okKeys ks keys = true → ks.length = keys.length ∧ keys.all (·.isSome) = true
  | [], [], _ => ⟨rfl, rfl⟩
  | [], _ :: _, h => by cases h
  | _ :: _, [], h => by cases h
  | k :: ks, e :: keys, h => by
    have h : (okKey k e && okKeys ks keys) = true := h
    rw [Bool.and_eq_true] at h
    obtain ⟨h1, h2⟩ := keys_ok h.2
    have : e.isSome = true := by
      have h0 := h.1
      unfold okKey at h0
      split at h0 <;> first | rfl | cases h0
    exact ⟨by simp [h1], by rw [List.all_cons, this, h2]; rfl⟩
/-- targets -/
theorem name_ok (g : Gd G T P cf C X) {i : Nat} {e : Expr} (h : okName C i e = true) : ∃ x p, e = .Name x p ∧ PG X e (gName i) := by
  unfold okName at h
  split at h
  · obtain ⟨n1, n2, n3⟩ := okSto_ok g h
    exact ⟨_, _, rfl, pg_name (by rw [g.N]; exact g.nd) n1 n2 n3⟩
  · cases h
theorem names_ok (g : Gd G T P cf C X) : ∀ {is : List Nat} {es : List Expr}, okNames C is es = true → PGs X es (gNames is) ∧ (assignEach es X.env).length = is.length ∧ (assignEach es X.env).findIdx? (·.1) = none
  | [], [], _ => ⟨pgs_nil, rfl, rfl⟩
  | [], _ :: _, h => by cases h
  | _ :: _, [], h => by cases h
  | i :: is, e :: es, h => by
    have h : (okName C i e && okNames C is es) = true := h
    rw [Bool.and_eq_true] at h
    obtain ⟨h1, h2, h3⟩ := names_ok g h.2
    obtain ⟨x, p, rfl, pg⟩ := name_ok g h.1
    refine ⟨pgs_cons pg h1 rfl, ?_, ?_⟩
    · show (assignEach es X.env).length + 1 = _
      rw [h2]; rfl
    · show List.findIdx? (·.1) ((false, _) :: assignEach es X.env) = none
      rw [List.findIdx?_cons]
      simp [h3]
theorem okT_ok (g : Gd G T P cf C X) {t : Tg} {e : Expr} (h : okT C t e = true) : PG X e (gT X.K t) := by
  unfold okT at h
  split at h
  · obtain ⟨x, p, rfl, pg⟩ := name_ok g h
    exact pg
  · obtain ⟨h1, h2, h3⟩ := names_ok g h
    exact pg_tup g.cal.calm h1 h2 h3
  · cases h
/-- a comprehension's block -/
theorem blk_ok (g : Gd G T P cf C X) {own : List Nat} {t : Tg} {tg : Expr} {scope : Scope} (h : okBlk C own t tg scope = true) :
    BlkOk X.N X.env.scope scope (ownN C own) ∧ (ownN C own).map (·.2) = own ∧ okT (C.in_ scope) t tg = true ∧ tgIs t ⊆ own ∧ scope.kind = .function := by
  unfold okBlk at h
  simp only [Bool.and_eq_true, decide_eq_true_eq] at h
  obtain ⟨⟨⟨h1, h2⟩, h3⟩, h4⟩ := h
  have ok := blkOk_by h2
  rw [← g.N, ← g.sc] at ok
  exact ⟨ok, h1, h3, fun x m => by have := List.all_eq_true.mp h4 x m; simpa using this, ok.kind⟩
end
end Z

set_option maxRecDepth 100000
/-! Z19: what the check has passed is so: expressions. -/
namespace Z
open PySem PySem.Spec PyProof.Rows
open L2

section
variable {G : Gt} {T : Tb} {P : Pg} {cf : CF} {C : CC} {X : Cx}
/-- as a test, where the test asks nothing but the value -/
def plainT (e : Expr) : Bool := match e with
  | .UnaryOp .Not .. | .BoolOp .. | .IfExp .. | .Compare .. => false
  | _ => true
theorem pt_plain {e : Expr} {f : Env → Hip → Res Val} (hp : plainT e = true) (h : PE X e (De T f)) : PE X e (De T f) ∧ PT X e (Dt T f) := by
  refine ⟨h, PT_imp (pt_val h fun whole => ?_) fun σ H Q d => Dt.of d⟩
  cases e with
  | UnaryOp op x p => cases op <;> first | rfl | cases hp
  | BoolOp => cases hp
  | IfExp => cases hp
  | Compare => cases hp
  | _ => rfl
theorem plainIx_of {e : Expr} (h : noSlice e = true) : PlainIx e := fun o i => by
  cases e <;> first | rfl | cases h
theorem noSet_of {e : Expr} {env : PySem.Env} (h : noSet e = true) : ∀ x, foldedSetIterable e env x = pure x := fun x => by
  cases e <;> first | rfl | cases h
theorem lst_eq1 {x : Expr} {env : PySem.Env} (h : plainEs [x] = true) : starEach [x] env = [(false, eval x env)] := (star_cons h).1
/-- the whole of a test of two or more -/
theorem pw_of {op : BoolOp} {xs : List Expr} {p : Pos} {t : TT} (h : PT X (.BoolOp op xs p) t) : PW X (.BoolOp op xs p) t := ⟨fun whole pins s σ H Q I q => h.run pins s σ H Q I q⟩
theorem bi_names {b : Bi} {n : Str} {id : String} (h : biFn b = some (n, id)) : n ∈ bnames := by
  cases b <;> cases h <;> decide
theorem ty_names {b : Bi} {n : Str} {id : String} (h : biTy b = some (n, id)) : n ∈ bnames := by
  cases b <;> cases h <;> decide
theorem is_names {b : Bi} {n : Str} {id : String} (h : biIs b = some (n, id)) : n ∈ bnames := by
  cases b <;> cases h <;> decide
theorem name_ne {n : Str} (h : n ∈ bnames) : n ≠ "__name__" := by
  rintro rfl
  exact absurd h (by decide)
theorem bi_rule (c : Cal T X) {b : Bi} {n : Str} {id : String} (h : biFn b = some (n, id)) : CallR X (.builtin id) (rON T (biOp b)) ∧ bootBuiltins n = some (.builtin id) := by
  cases b <;> cases h
  · exact ⟨f_len c, boot_len⟩
  · exact ⟨f_max2 c, boot_max⟩
  · exact ⟨f_min2 c, boot_min⟩
  · exact ⟨f_sorted c, boot_sorted⟩
  · exact ⟨f_sum c, boot_sum⟩
  · exact ⟨f_repr c, boot_repr⟩
  · exact ⟨f_all c, boot_all⟩
  · exact ⟨f_any c, boot_any⟩
  · exact ⟨f_abs, boot_abs⟩
  · exact ⟨f_divmod, by decide +kernel⟩
  · exact ⟨f_max1 c, boot_max⟩
theorem ty_rule (c : Cal T X) {b : Bi} {n : Str} {id : String} (h : biTy b = some (n, id)) : CallR X (.type id) (rON T (biOp b)) ∧ bootBuiltins n = some (.type id) := by
  cases b <;> cases h
  · exact ⟨f_int1, boot_int⟩
  · exact ⟨f_tuple c, boot_tuple⟩
  · exact ⟨f_list c, boot_list⟩
theorem is_rule (c : Cal T X) {b : Bi} {n : Str} {id : String} (h : biIs b = some (n, id)) : CallR X (.builtin "isinstance") (fun xs H Q => ∃ x, xs = [x, .ty id] ∧ rON T (biOp b) [x] H Q) ∧ bootBuiltins n = some (.type id) := by
  cases b <;> cases h
  · exact ⟨f_is c "int" (by decide), boot_int⟩
  · exact ⟨f_is c "bool" (by decide), boot_bool⟩
  · exact ⟨f_is c "tuple" (by decide), boot_tuple⟩
  · exact ⟨f_is c "str" (by decide), boot_str⟩

/-- len(set(x)) of ints -/
def tLenSet' (K : PySem.W.Frag) (ta : TE) : TE := fun σ H Q => ta σ H fun x H1 => ∃ (l : Addr) (ns : List Int), x = .ref l ∧ SqL K H1 l (ns.map V.int) ∧ ns.length < 64 ∧ Q (.int ((ns.foldl (fun acc y => addTo y acc) []).length : Nat)) H1
theorem add_dedup (acc : List Int) (x : Int) : PyProof.Rows.step_dedup acc x = addTo x acc := by
  show (if acc.any (· == x) then acc else acc ++ [x]) = addTo x acc
  unfold addTo
  by_cases m : x ∈ acc
  · rw [if_pos m, if_pos]
    exact List.any_eq_true.mpr ⟨_, m, by simp⟩
  · rw [if_neg m, if_neg]
    intro q
    obtain ⟨y, hy, ey⟩ := List.any_eq_true.mp q
    exact m ((eq_of_beq ey) ▸ hy)
theorem firstMet_add (ns : List Int) : ∀ i, i ≤ ns.length → PyProof.Rows.firstMet (fun i => ns.getD i 0) i = (ns.take i).foldl (fun acc y => addTo y acc) []
  | 0, _ => by rfl
  | i + 1, h => by
    have hlt : i < ns.length := h
    have e2 : ns.take (i + 1) = ns.take i ++ [ns.getD i 0] := by
      rw [List.take_add_one, List.getElem?_eq_getElem hlt, List.getD_eq_getElem?_getD, List.getElem?_eq_getElem hlt]; rfl
    rw [PyProof.Rows.firstMet_succ, firstMet_add ns i (Nat.le_of_lt hlt), e2, List.foldl_append]
    exact add_dedup _ _
theorem pe_lenSet' {X : Cx} {a : Expr} {ta : TE} {p p2 q pos : Pos} (hg : Gl X "len") (hm : X.mg "len" = none) (hg2 : Gl X "set") (hm2 : X.mg "set" = none) (ha : PE X a ta) (hc : X.calm = true)
    (na : starEach [a] X.env = (false, eval a X.env) :: starEach [] X.env) : PE X (.Call (.Name "len" p) [.Call (.Name "set" p2) [a] [] q] [] pos) (tLenSet' X.K ta) := by
  refine ⟨fun pins s σ H Q I h => ?_⟩
  refine Call_ (ld_blt I hg hm PySem.boot_len ?_)
  refine PyProof.Rows.callWith_builtin1 (PyProof.Rows.args_cons ?_ rfl) rfl rfl
  refine Call_ (ld_blt I hg2 hm2 PyProof.Rows.boot_set ?_)
  refine PyProof.Rows.callWith_type1 (PyProof.Rows.args_cons (thn (ha.run pins s σ H _ I h) fun v s1 ⟨x, H1, I1, r1, q1⟩ => PyProof.Rows.args_nil ?_) na) na rfl
  obtain ⟨l, ns, rfl, hq, h1, q1⟩ := q1
  cases r1
  obtain ⟨its, r, pl, hz⟩ := I1.list hq
  have hl : its.toArray.size = ns.length := by rw [List.size_toArray, ← r.length, List.length_map]
  refine PySem.call_set_list (I1.ok.hd hc) pl.isList (ns := ns) (by simpa using r.ints) (by unfold scanBound; omega) fun h' tk hS hk => ?_
  rw [hl, firstMet_add ns ns.length (Nat.le_refl _), List.take_length] at hS
  refine PyProof.Rows.args_nil ?_
  have hle : (ns.foldl (fun acc y => addTo y acc) []).length ≤ ns.length := by
    rw [← List.take_length (l := ns), ← firstMet_add ns ns.length (Nat.le_refl _), List.take_length]
    exact PyProof.Rows.firstMet_length_le _ _
  obtain ⟨o, es, ep, t, ho, hex, hd, _, _, _, hf, hn⟩ := hS
  have I2 : Inv X pins σ H1 { s1 with heap := h', toks := tk } := I1.kept fun b o e => hk b o (Heap.lt_size e) e
  refine call_len_set ho hex hd hf (by rw [hn] <;> omega) ⟨.int (ns.foldl (fun acc y => addTo y acc) []).length, H1, I2.tok _, ⟨_, by rw [hn]⟩, q1⟩
theorem d_lenset {f p : Env → Hip → Res Val} (hK : X.K = T.K) (hp : ∀ ρ h, p ρ h = (f ρ h).bind fun x h => ok? (lenSet h x) (fun n => .int (n : Int)) h) {σ : L2.St} {H : Hp} {Q : VK} (d : De T p σ H Q) : tLenSet' X.K (De T f) σ H Q := by
  obtain ⟨ι, ρ, h, v, h', a, e, q⟩ := d
  rw [hp] at e
  obtain ⟨x, h1, e1, e⟩ := bind_ok e
  obtain ⟨n, en, rfl, rfl⟩ := ok?_ok e
  refine De.go a e1 fun ι1 H1 V1 x1 a1 r1 => ?_
  unfold lenSet at en
  split at en
  · rename_i ns ens
    split at en
    · rename_i hl
      cases en
      obtain ⟨ys, ey, en2⟩ := Option.bind_eq_some_iff.mp ens
      obtain ⟨i, p, vs, rfl, _, _, rfl, s1, r2⟩ := lstAt_rep a1.sim ey r1
      have := ints_vals en2 r2
      subst this
      exact ⟨p, ns, rfl, SqL.of s1, hl, q ι1 H1 _ x1 a1.sim (.int _)⟩
    · cases en
  · cases en
theorem pe_none {X : Cx} {e : Expr} {f : Env → Hip → Res Val} (hf : ∀ ρ h, f ρ h = .bad) : PE X e (De T f) ∧ PT X e (Dt T f) :=
  ⟨⟨fun pins s σ H Q I h => by obtain ⟨ι, ρ, h0, v, h', at_, e, q⟩ := h; rw [hf] at e; cases e⟩,
   ⟨fun pins s σ H Q I h => by obtain ⟨ι, ρ, h0, v, h', at_, e, q⟩ := h; rw [hf] at e; cases e⟩⟩
theorem isDct_at {v : Val} {h : Hip} (e : isDct v h = true) : ∃ i kvs, v = .ref i ∧ h[i]? = some (.dct kvs) := by
  unfold isDct at e
  split at e
  · split at e
    · rename_i i _ kvs ei; exact ⟨i, kvs, rfl, ei⟩
    · cases e
  · cases e
/-- d.get(k, x) -/
theorem pe_get3 {X : Cx} {o e f : Expr} {apos cpos : Pos} {fo fe ff p : Env → Hip → Res Val} (c : Cal T X) (ho : PE X o (De T fo)) (he : PE X e (De T fe)) (hf : PE X f (De T ff)) (m : M2 X o "get" apos e f cpos)
    (hp : ∀ ρ h, p ρ h = (fo ρ h).bind fun v h => if isDct v h then (fe ρ h).bind fun y h => (ff ρ h).bind fun z h => ok? (getOr v y z h) id h else .bad) : PE X (.Call (.Attribute o "get" apos) [e, f] [] cpos) (De T p) := by
  refine ⟨fun pins s σ H Q I h => ?_⟩
  have hu := c.un
  obtain ⟨ι, ρ, h0, v, h', at_, e0, q⟩ := h
  rw [hp] at e0
  obtain ⟨x, h1, e1, e0⟩ := bind_ok e0
  split at e0
  case isFalse => cases e0
  rename_i hd
  obtain ⟨i, kvs, rfl, ei⟩ := isDct_at hd
  obtain ⟨y, h2, e2, e0⟩ := bind_ok e0
  obtain ⟨z, h3, e3, e0⟩ := bind_ok e0
  obtain ⟨w, ew, ev, eh⟩ := ok?_ok e0
  have ev : v = w := ev
  subst ev
  subst eh
  refine wpAny_Call_method m.base m.few m.line PySem.F.plainAttrs_dict PySem.F.slot_dict_get PySem.F.type_dict_get (thn (ho.run pins s σ H (fun V H1 => ∃ ι1, Ext ι H ι1 H1 ∧ At T ι1 ρ h1 σ H1 ∧ Rep T ι1 H1 (.ref i) V) I (De.go at_ e1 fun ι1 H1 V x1 a1 r1 => ⟨ι1, x1, a1, r1⟩)) fun u s1 ⟨V1, H1, I1, rx, ι1, x1, a1, r1⟩ => ?_)
  obtain ⟨a, rfl, ea⟩ := rep_ref r1
  obtain rfl : u = Value.ref a := rx
  have dd : IsD H1 a := by
    rcases orep_dct (a1.sim.at ea ei) with ⟨ks, eH, _⟩ | ⟨ks, eH, _⟩
    · exact .inl ⟨ks, .of eH⟩
    · exact .inr ⟨ks, .of eH⟩
  obtain ⟨t1, t2, _⟩ := isD_at I1 dd
  refine ⟨t1, t2, ?_⟩
  rw [m.trees]
  refine Calls.callWith_builtin rfl (Calls.evalArgs_plain (Calls.spliced_cons (thn (he.run pins s1 σ H1 (fun V H2 => ∃ ι2, Ext ι1 H1 ι2 H2 ∧ At T ι2 ρ h2 σ H2 ∧ Rep T ι2 H2 y V) I1 (De.go a1 e2 fun ι2 H2 V x2 a2 r2 => ⟨ι2, x2, a2, r2⟩)) fun iv s2 ⟨V2, H2, I2, ry, ι2, x2, a2, r2⟩ =>
    Calls.spliced_cons (thn (hf.run pins s2 σ H2 (fun V H3 => ∃ ι3, Ext ι2 H2 ι3 H3 ∧ At T ι3 ρ h' σ H3 ∧ Rep T ι3 H3 z V) I2 (De.go a2 e3 fun ι3 H3 V x3 a3 r3 => ⟨ι3, x3, a3, r3⟩)) fun fv s3 ⟨V3, H3, I3, rz, ι3, x3, a3, r3⟩ => Calls.spliced_nil ?_))))
  have ey : ∃ kvs3, h'[i]? = some (Ob.dct kvs3) ∧ keysOk kvs3 y = true ∧ v = (dget y kvs3).getD z := by
    unfold getOr at ew
    dsimp only at ew
    split at ew
    · rename_i kvs3 e4
      rw [keys_eq] at ew
      split at ew
      · rename_i hk
        exact ⟨kvs3, e4, hk, (Option.some.inj ew).symm⟩
      · cases ew
    · cases ew
  obtain ⟨kvs3, e4, hk, rfl⟩ := ey
  have rr : Rep T ι3 H3 (.ref i) (.ref a) := (r1.mono x2).mono x3
  obtain ⟨a', H4, ea', ea2, I4, sim4, ext4, rg⟩ := dict_at I3 a3.sim e4 (r2.mono x3) rr hk
  cases ea'
  obtain ⟨o', g, hg⟩ := dget_some rg
  refine d_get2 (by omega) I4 g ry rz fun w' s4 I5 rw' => ⟨_, H4, I5, rw', ?_⟩
  have qq := q.mono (((x1.trans x2).trans x3).trans ext4)
  rcases hg with ⟨g1, rfl⟩ | ⟨v', V', g1, rfl, rv⟩
  · rw [g1] at qq
    exact qq.val sim4 (r3.mono ext4)
  · rw [g1] at qq
    exact qq.val sim4 rv
theorem okEs_len : ∀ {es : IEs} {C : CC} {xs : List Expr}, okEs G es C xs = true → es.len = xs.length
  | .nil, _, [], _ => rfl
  | .nil, _, _ :: _, h => absurd h Bool.false_ne_true
  | .cons _ _, _, [], h => absurd h Bool.false_ne_true
  | .cons e es, C, x :: xs, h => by
    have h : (okE G e C x && okEs G es C xs) = true := h
    rw [Bool.and_eq_true] at h
    show es.len + 1 = xs.length + 1
    rw [okEs_len h.2]
theorem kwNames_len : ∀ {kws : List Keyword} {ks : List Str}, kwNames kws = some ks → ks.length = kws.length
  | [], ks, e => by cases e; rfl
  | ⟨some n, v, p⟩ :: r, ks, e => by
    obtain ⟨k2, e2, rfl⟩ := Option.map_eq_some_iff.mp (show (kwNames r).map (n :: ·) = some ks from e)
    simp [kwNames_len e2]
  | ⟨none, _, _⟩ :: _, _, e => by cases e
/-! a comprehension's parts -/
structure Parts (X : Cx) (scope : Scope) (own : List (Str × Nat)) (tg iter : Expr) (wi : TI) (g : TG) (ifs : List Expr) (tt : TT) (elt : Expr) (te : TE) : Prop where
  i_ : PI X tg iter wi
  ok : BlkOk X.N X.env.scope scope own
  bk : Bk X scope tg g ifs tt elt te
  hs : ∀ x, foldedSetIterable iter X.env x = pure x
theorem e_lc {scope : Scope} {own : List (Str × Nat)} {tg iter elt : Expr} {wi : TI} {g : TG} {ifs : List Expr} {tt : TT} {te : TE} {pos : Pos} (hc : X.calm = true) (hN : X.N.Nodup) (p : Parts X scope own tg iter wi g ifs tt elt te) :
    PE X (.ListComp elt [⟨tg, iter, ifs, 0⟩] scope pos) (tLc wi g tt te (own.map (·.2))) := pe_lc hc hN p.i_ p.ok p.bk.g_ p.bk.t_ p.bk.e_ p.hs
theorem e_sc {scope : Scope} {own : List (Str × Nat)} {tg iter elt : Expr} {wi : TI} {g : TG} {ifs : List Expr} {tt : TT} {te : TE} {pos : Pos} (hc : X.calm = true) (hN : X.N.Nodup) (p : Parts X scope own tg iter wi g ifs tt elt te) :
    PE X (.SetComp elt [⟨tg, iter, ifs, 0⟩] scope pos) (tScI X.w wi g tt te (own.map (·.2))) := by
  refine ⟨fun pins s σ H Q I h => ?_⟩
  rw [PpSet.eval_SetComp]
  refine core_sc hc hN I p.i_ p.ok p.bk p.hs h fun D C s' m H' I' q hn f => ⟨m, hn, fun h'' sb => ?_⟩
  obtain ⟨f0, f1, f2, f3, f4, f5⟩ := f
  exact ⟨.ref D, H', I'.turned (t' := s'.toks) (fun b o hb e => (sb.2 b hb).trans e) f0 f1 f3 f4 f5, rfl, q⟩

mutual
theorem sE : ∀ (ie : IE) {C : CC} {X : Cx} {e : Expr}, Gd G T P cf C X → okE G ie C e = true → PE X e (De T (evE P cf ie)) ∧ PT X e (Dt T (evE P cf ie))
  | .var i, C, X, e, g, h => by
    cases e <;> first | (exact absurd h Bool.false_ne_true) | skip
    obtain ⟨h1, h2, h3, h4⟩ := okVar_ok g h
    exact pt_plain rfl (PE_imp (pe_var h1 h2 h3 h4) fun σ H Q d => d_var (fun ρ h => rfl) d)
  | .con v, C, X, e, g, h => by
    have h : okCon G C v e = true := h
    have hp : plainT e = true := by
      unfold okCon at h
      split at h <;> first | rfl | cases h
    exact pt_plain hp (con_ok g h)
  | .tup es, C, X, e, g, h => by
    cases e <;> first | (exact absurd h Bool.false_ne_true) | skip
    rename_i xs k pos
    have h : (plainEs xs && okEs G es C xs) = true := h
    rw [Bool.and_eq_true] at h
    exact pt_plain rfl (PE_imp (pe_tup ((sEs es g h.2).1 h.1)) fun σ H Q d => d_tup (fun ρ h => rfl) d)
  | .lst es, C, X, e, g, h => by
    cases e <;> first | (exact absurd h Bool.false_ne_true) | skip
    rename_i xs pos
    have h : (plainEs xs && okEs G es C xs) = true := h
    rw [Bool.and_eq_true] at h
    exact pt_plain rfl (PE_imp (pe_lst ((sEs es g h.2).1 h.1)) fun σ H Q d => d_lst (fun ρ h => rfl) d)
  | .dct ks es, C, X, e, g, h => by
    cases e <;> first | (exact absurd h Bool.false_ne_true) | skip
    rename_i keys vals pos
    have h : (okKeys ks keys && okEs G es C vals && decide (keys.length = vals.length) && decide (keys.length ≤ 15)) = true := h
    simp only [Bool.and_eq_true, decide_eq_true_eq] at h
    obtain ⟨⟨⟨h1, h2⟩, h3⟩, h4⟩ := h
    obtain ⟨k1, k2⟩ := keys_ok h1
    have pp := (sEs es g h2).2.2 pos ks keys h1 h3
    cases keys with
    | nil =>
      cases vals with
      | cons => cases h3
      | nil =>
        cases ks with
        | cons => cases k1
        | nil =>
          refine pt_plain rfl (PE_imp pe_dnewK fun σ H Q d => ?_)
          obtain ⟨ι, ρ, hh, v, h', a, e, q⟩ := d
          obtain ⟨vs, h1', e1, e⟩ := bind_ok (show (evEs P cf es ρ hh).bind _ = _ from e)
          cases es with
          | cons => exact absurd h2 Bool.false_ne_true
          | nil =>
            cases e1
            cases e
            exact fun p hp => q.new a.sim hp (.dK upd_same .nil)
    | cons k0 kr =>
      exact pt_plain rfl (PE_imp (pe_disp pp k2 h3 (List.cons_ne_nil _ _) h4) fun σ H Q d => d_dct (by rw [k1]; exact h4) d)
  | .bin o a b, C, X, e, g, h => by
    cases e <;> first | (exact absurd h Bool.false_ne_true) | skip
    rename_i x op y pos
    have h : (okOp o op && okE G a C x && okE G b C y) = true := h
    simp only [Bool.and_eq_true] at h
    exact pt_plain rfl (PE_imp (pe_op (okOp_ok g.cal h.1.1) (sE a g h.1.2).1 (sE b g h.2).1) fun σ H Q d => d_op (fun ρ h => rfl) d)
  | .neg a, C, X, e, g, h => by
    cases e <;> first | (exact absurd h Bool.false_ne_true) | skip
    rename_i op x pos
    cases op <;> first | (exact absurd h Bool.false_ne_true) | skip
    refine pt_plain rfl (PE_imp (pe_un un_neg (sE a g h).1) fun σ H Q d => ?_)
    obtain ⟨ι, ρ, hh, v, h', at_, e, q⟩ := d
    obtain ⟨x, h1, e1, e⟩ := bind_ok (show (evE P cf a ρ hh).bind _ = _ from e)
    refine De.go at_ e1 fun ι1 H1 V1 x1 a1 r1 => ?_
    split at e
    · cases e; exact ⟨_, rep_int r1, q ι1 H1 _ x1 a1.sim (.int _)⟩
    · cases e
  | .cmp o a b, C, X, e, g, h => by
    cases e <;> first | (exact absurd h Bool.false_ne_true) | skip
    rename_i x ops ys pos
    have h : (match ops, ys with | [op], [y] => okCop o op && !behindInMarks op y && okE G a C x && okE G b C y | _, _ => false) = true := by
      cases ops with
      | nil => exact absurd h Bool.false_ne_true
      | cons op ops => cases ops <;> cases ys <;> first | (exact absurd h Bool.false_ne_true) | (rename_i y ys; cases ys <;> first | exact h | (exact absurd h Bool.false_ne_true)) | (rename_i _ _ y ys; cases ys <;> first | exact h | (exact absurd h Bool.false_ne_true))
    split at h
    case h_2 => cases h
    simp only [Bool.and_eq_true, Bool.not_eq_true'] at h
    obtain ⟨⟨⟨h1, h2⟩, h3⟩, h4⟩ := h
    have r := okCop_ok g.cal h1
    exact ⟨PE_imp (pe_cmpR r (sE a g h3).1 (sE b g h4).1 h2) fun σ H Q d => d_op (fun ρ h => rfl) d, PT_imp (pt_cmpR r (sE a g h3).1 (sE b g h4).1 h2) fun σ H Q d => dt_op (fun ρ h => rfl) d⟩
  | .chain o o' a b c, C, X, e, g, h => by
    cases e <;> first | (exact absurd h Bool.false_ne_true) | skip
    rename_i x ops ys pos
    have h : (match ops, ys with | [op, op'], [y, z] => okCop o op && okCop o' op' && !lastMarks [op, op'] [y, z] && okE G a C x && okE G b C y && okE G c C z | _, _ => false) = true := by
      rcases ops with _ | ⟨op, _ | ⟨op', _ | ⟨_, _⟩⟩⟩ <;> rcases ys with _ | ⟨y, _ | ⟨z, _ | ⟨_, _⟩⟩⟩ <;> first | exact h | (exact absurd h Bool.false_ne_true)
    split at h
    case h_2 => cases h
    simp only [Bool.and_eq_true, Bool.not_eq_true'] at h
    obtain ⟨⟨⟨⟨⟨h1, h1'⟩, h2⟩, h3⟩, h4⟩, h5⟩ := h
    have r := okCop_ok g.cal h1
    have r' := okCop_ok g.cal h1'
    exact ⟨PE_imp (pe_chain r r' (sE a g h3).1 (sE b g h4).1 (sE c g h5).1 h2) fun σ H Q d => d_chain (fun ρ h => rfl) d, PT_imp (pt_chain r r' (sE a g h3).1 (sE b g h4).1 (sE c g h5).1 h2) fun σ H Q d => dt_chain (fun ρ h => rfl) d⟩
  | .and2 a b, C, X, e, g, h => by
    cases e <;> first | (exact absurd h Bool.false_ne_true) | skip
    rename_i op xs pos
    cases op <;> first | (cases xs <;> first | (exact absurd h Bool.false_ne_true) | (rename_i x xs; cases xs <;> exact absurd h Bool.false_ne_true); done) | skip
    rcases xs with _ | ⟨x, _ | ⟨y, r⟩⟩
    · exact absurd h Bool.false_ne_true
    · exact absurd h Bool.false_ne_true
    have h : (okE G a C x && (match (generalizing := false) r with | [] => okE G b C y | _ => okE G b C (.BoolOp .And (y :: r) pos))) = true := h
    rw [Bool.and_eq_true] at h
    obtain ⟨h1, h2⟩ := h
    obtain ⟨ea, ta⟩ := sE a g h1
    split at h2
    · obtain ⟨eb, tb⟩ := sE b g h2
      exact ⟨PE_imp (pe_and ea (pe_one eb)) fun σ H Q d => d_and (fun ρ h => rfl) d, PT_imp (pw_and ta (pw_and1 tb)).pt fun σ H Q d => dt_and (fun ρ h => rfl) d⟩
    · obtain ⟨eb, tb⟩ := sE b g h2
      exact ⟨PE_imp (pe_and ea eb) fun σ H Q d => d_and (fun ρ h => rfl) d, PT_imp (pw_and ta (pw_of tb)).pt fun σ H Q d => dt_and (fun ρ h => rfl) d⟩
  | .or2 a b, C, X, e, g, h => by
    cases e <;> first | (exact absurd h Bool.false_ne_true) | skip
    rename_i op xs pos
    cases op <;> first | (cases xs <;> first | (exact absurd h Bool.false_ne_true) | (rename_i x xs; cases xs <;> exact absurd h Bool.false_ne_true); done) | skip
    rcases xs with _ | ⟨x, _ | ⟨y, r⟩⟩
    · exact absurd h Bool.false_ne_true
    · exact absurd h Bool.false_ne_true
    have h : (okE G a C x && (match (generalizing := false) r with | [] => okE G b C y | _ => okE G b C (.BoolOp .Or (y :: r) pos))) = true := h
    rw [Bool.and_eq_true] at h
    obtain ⟨h1, h2⟩ := h
    obtain ⟨ea, ta⟩ := sE a g h1
    split at h2
    · obtain ⟨eb, tb⟩ := sE b g h2
      exact ⟨PE_imp (pe_or ea (pe_one eb)) fun σ H Q d => d_or (fun ρ h => rfl) d, PT_imp (pw_or ta (pw_or1 tb)).pt fun σ H Q d => dt_or (fun ρ h => rfl) d⟩
    · obtain ⟨eb, tb⟩ := sE b g h2
      exact ⟨PE_imp (pe_or ea eb) fun σ H Q d => d_or (fun ρ h => rfl) d, PT_imp (pw_or ta (pw_of tb)).pt fun σ H Q d => dt_or (fun ρ h => rfl) d⟩
  | .not1 a, C, X, e, g, h => by
    cases e <;> first | (exact absurd h Bool.false_ne_true) | skip
    rename_i op x pos
    cases op <;> first | (exact absurd h Bool.false_ne_true) | skip
    obtain ⟨ea, ta⟩ := sE a g (show okE G a C x = true from h)
    exact ⟨PE_imp (pe_not ea) fun σ H Q d => d_not (fun ρ h => rfl) d, PT_imp (pt_not ta) fun σ H Q d => dt_not (fun ρ h => rfl) d⟩
  | .ite c a b, C, X, e, g, h => by
    cases e <;> first | (exact absurd h Bool.false_ne_true) | skip
    rename_i x y z pos
    have h : (okE G c C x && okE G a C y && okE G b C z) = true := h
    simp only [Bool.and_eq_true] at h
    obtain ⟨ea, ta⟩ := sE a g h.1.2
    obtain ⟨eb, tb⟩ := sE b g h.2
    have tc := (sE c g h.1.1).2
    refine ⟨PE_imp (pe_ifExp tc ea eb) fun σ H Q d => d_ite (fun ρ h => rfl) d, ⟨fun pins s σ H Q I d => ?_⟩⟩
    show wpAny _ _ (isTrue x X.env (eval x X.env) >>= fun k => if k = true then isTrue y X.env (eval y X.env) else isTrue z X.env (eval z X.env)) _ _ s
    refine wpAny_bind (thn (tc.run pins s σ H _ I (dt_ite (fun ρ h => rfl) d)) fun k s1 ⟨H1, I1, q1⟩ => ?_)
    cases k with
    | true => exact ta.run pins s1 σ H1 Q I1 q1
    | false => exact tb.run pins s1 σ H1 Q I1 q1
  | .ix a b, C, X, e, g, h => by
    cases e <;> first | (exact absurd h Bool.false_ne_true) | skip
    rename_i x y pos
    have h : (noSlice y && okE G a C x && okE G b C y) = true := h
    simp only [Bool.and_eq_true] at h
    exact pt_plain rfl (PE_imp (pe_ix (i_ix g.cal) (sE a g h.1.2).1 (sE b g h.2).1 (plainIx_of h.1.1)) fun σ H Q d => d_op (fun ρ h => rfl) d)
  | .sl a lo hi, C, X, e, g, h => by
    cases e <;> first | (exact absurd h Bool.false_ne_true) | skip
    rename_i x y pos
    cases y <;> first | (exact absurd h Bool.false_ne_true) | skip
    rename_i l u st p2
    cases st <;> first | (exact absurd h Bool.false_ne_true) | skip
    have h : (okE G a C x && okO G lo C l && okO G hi C u) = true := h
    simp only [Bool.and_eq_true] at h
    exact pt_plain rfl (PE_imp (pe_slice (s_sl g.cal) (sE a g h.1.1).1 (sO lo g h.1.2) (sO hi g h.2)) fun σ H Q d => d_sl (fun ρ h => rfl) d)
  | .rev a, C, X, e, g, h => absurd h Bool.false_ne_true
  | .call f es, C, X, e, g, h => by
    cases e <;> first | (exact absurd h Bool.false_ne_true) | skip
    rename_i fn xs kws pos
    cases fn <;> first | (exact absurd h Bool.false_ne_true) | skip
    rename_i x p
    cases kws <;> first | (exact absurd h Bool.false_ne_true) | skip
    have h : (okGl C x && decide (G.fn.lookup x = some f) && plainEs xs && okEs G es C xs) = true := h
    simp only [Bool.and_eq_true, decide_eq_true_eq] at h
    obtain ⟨⟨⟨h1, h2⟩, h3⟩, h4⟩ := h
    obtain ⟨g1, g2⟩ := okGl_ok g h1
    obtain ⟨ad, fd, k, ps, m1, m2, m3, m4, m5, _⟩ := (g.fn x f h2).ex
    have pa := (sEs es g h4).1 h3
    refine pt_plain rfl (PE_imp (e_call m3 m4 g1 m1 m2 m5 g2 pa h3 fun z σ H Q d => ?_) fun σ H Q d => d_callN (fun ρ h => rfl) d)
    subst z
    cases es with
    | cons => exact absurd h4 Bool.false_ne_true
    | nil => exact d_nil (T := T) (p := evEs P cf .nil) (fun ρ h => rfl) d
  | .callK f perm es, C, X, e, g, h => by
    cases e <;> first | (exact absurd h Bool.false_ne_true) | skip
    rename_i fn xs kws pos
    cases fn <;> first | (exact absurd h Bool.false_ne_true) | skip
    rename_i x p
    cases xs <;> first | (exact absurd h Bool.false_ne_true) | skip
    have h : (okGl C x && decide (G.fn.lookup x = some f) && (match kwNames kws with
      | some ks => G.kw.contains (f, ks, perm)
      | none => false) && okEs G es C (kwVals kws)) = true := h
    simp only [Bool.and_eq_true, decide_eq_true_eq] at h
    obtain ⟨⟨⟨h1, h2⟩, h3⟩, h4⟩ := h
    split at h3
    case h_2 => cases h3
    rename_i ks ek
    obtain ⟨g1, g2⟩ := okGl_ok g h1
    obtain ⟨ad, fd, k, ps, m1, m2, m3, m4, m5, m6⟩ := (g.fn x f h2).ex
    have hlen : es.len = ks.length := by rw [okEs_len h4, kwNames_len ek]; unfold kwVals; rw [List.length_map]
    exact pt_plain rfl (PE_imp (e_callK m3 m4 g1 m1 m2 (m6 ks perm h3) g2 ((sEs es g h4).2.1 kws rfl) ek) fun σ H Q d => d_callK hlen (fun ρ h => rfl) d)
  | .meth o m es, C, X, e, g, h => by
    cases e <;> first | (exact absurd h Bool.false_ne_true) | skip
    rename_i fn xs kws pos
    cases fn <;> first | (exact absurd h Bool.false_ne_true) | skip
    rename_i y at_ apos
    cases kws <;> first | (exact absurd h Bool.false_ne_true) | skip
    have h : (decide (at_ = G.nm m) && plainEs xs && baseOk y && decide (xs.length < 30) && (apos.endLine == pos.line) && okE G o C y && okEs G es C xs) = true := h
    simp only [Bool.and_eq_true, decide_eq_true_eq] at h
    obtain ⟨⟨⟨⟨⟨⟨h1, h2⟩, h3⟩, h4⟩, h5⟩, h6⟩, h7⟩ := h
    rw [g.nm] at h1
    subst h1
    have pa := (sEs es g h7).1 h2
    refine pt_plain rfl (PE_imp (e_meth (sE o g h6).1 pa h2 (fun z σ H Q d => ?_) h3 h4 h5) fun σ H Q d => d_meth (fun ρ h => rfl) g.ob g.mt d)
    subst z
    cases es with
    | cons => exact absurd h7 Bool.false_ne_true
    | nil => exact d_nil (T := T) (p := evEs P cf .nil) (fun ρ h => rfl) d
  | .make c es, C, X, e, g, h => by
    cases e <;> first | (exact absurd h Bool.false_ne_true) | skip
    rename_i fn xs kws pos
    cases fn <;> first | (exact absurd h Bool.false_ne_true) | skip
    rename_i x p
    cases kws <;> first | (exact absurd h Bool.false_ne_true) | skip
    have h : (okGl C x && decide (G.cls.lookup x = some c) && plainEs xs && okEs G es C xs) = true := h
    simp only [Bool.and_eq_true, decide_eq_true_eq] at h
    obtain ⟨⟨⟨h1, h2⟩, h3⟩, h4⟩ := h
    obtain ⟨g1, g2⟩ := okGl_ok g h1
    obtain ⟨Ca, f, ad, fd, k, ps, m1, m2, m3, m4, m5, m6, m7⟩ := (g.cls x c h2).ex
    have pa := (sEs es g h4).1 h3
    refine pt_plain rfl (PE_imp (e_make m4 m5 m6 g1 m1 m7 g2 pa h3 fun z σ H Q d => ?_) fun σ H Q d => d_make (fun ρ h => ?_) m2 d)
    · subst z
      cases es with
      | cons => exact absurd h4 Bool.false_ne_true
      | nil => exact d_nil (T := T) (p := evEs P cf .nil) (fun ρ h => rfl) d
    · show (match P.ini c with | some f => _ | none => _) = _
      rw [m3] <;> rfl
  | .bi b es, C, X, e, g, h => by
    cases e <;> first | (exact absurd h Bool.false_ne_true) | skip
    rename_i fn xs kws pos
    cases fn <;> first | (exact absurd h Bool.false_ne_true) | skip
    rename_i x p
    cases xs <;> first | (exact absurd h Bool.false_ne_true) | skip
    rename_i y ys
    cases kws <;> first | (exact absurd h Bool.false_ne_true) | skip
    have h : (okGl C x && (match (generalizing := false) biFn b, biTy b, biIs b with
      | some (n, _), _, _ => decide (x = n) && plainEs (y :: ys) && okEs G es C (y :: ys)
      | _, some (n, _), _ => decide (x = n) && plainEs (y :: ys) && okEs G es C (y :: ys)
      | _, _, some (n, _) => decide (x = "isinstance") && (match (generalizing := false) ys with
        | [.Name z _] => okGl C z && decide (z = n) && plainEs [y] && okEs G es C [y]
        | _ => false)
      | _, _, _ => false)) = true := h
    rw [Bool.and_eq_true] at h
    obtain ⟨h1, h⟩ := h
    obtain ⟨g1, g2⟩ := okGl_ok g h1
    split at h
    · rename_i n id _ _ eb
      simp only [Bool.and_eq_true, decide_eq_true_eq] at h
      obtain ⟨⟨rfl, h3⟩, h4⟩ := h
      obtain ⟨r1, r2⟩ := bi_rule g.cal eb
      obtain ⟨s1, s2⟩ := star_cons (env := X.env) h3
      exact pt_plain rfl (PE_imp (pe_callB r1 g1 (g.nb _ (bi_names eb)) r2 ((sEs es g h4).1 h3) (name_ne (bi_names eb)) g2 s1 (star_any s2)) fun σ H Q d => d_callN (fun ρ h => rfl) d)
    · rename_i n id _ eb _
      simp only [Bool.and_eq_true, decide_eq_true_eq] at h
      obtain ⟨⟨rfl, h3⟩, h4⟩ := h
      obtain ⟨r1, r2⟩ := ty_rule g.cal eb
      obtain ⟨s1, s2⟩ := star_cons (env := X.env) h3
      exact pt_plain rfl (PE_imp (pe_callTy r1 g1 (g.nb _ (ty_names eb)) r2 ((sEs es g h4).1 h3) (name_ne (ty_names eb)) g2 s1 (star_any s2)) fun σ H Q d => d_callN (fun ρ h => rfl) d)
    · rename_i n id eb _ _
      rw [Bool.and_eq_true, decide_eq_true_eq] at h
      obtain ⟨hx, h'⟩ := h
      subst hx
      clear h
      split at h'
      case h_2 => cases h'
      rename_i z pz
      have h := h'
      simp only [Bool.and_eq_true, decide_eq_true_eq] at h
      obtain ⟨⟨⟨h2, rfl⟩, h3⟩, h4⟩ := h
      obtain ⟨z1, z2⟩ := okGl_ok g h2
      obtain ⟨r1, r2⟩ := is_rule g.cal eb
      have pa := (sEs es g h4).1 h3
      have pzz : PE X (.Name z pz) (L2.tC (.ty id)) := pe_bltn z1 (g.nb _ (is_names eb)) r2 rfl (name_ne (is_names eb)) z2
      have s1 := (star_cons (env := X.env) h3).1
      cases es with
      | nil => exact absurd h4 Bool.false_ne_true
      | cons e1 es2 =>
        have h4 : (okE G e1 C y && okEs G es2 C []) = true := h4
        rw [Bool.and_eq_true] at h4
        cases es2 with
        | cons => exact absurd h4.2 Bool.false_ne_true
        | nil =>
          have pe1 := (sE e1 g h4.1).1
          have hs2 : starEach [y, .Name z pz] X.env = (false, eval y X.env) :: starEach [.Name z pz] X.env := by
            have : plainEs [y, .Name z pz] = true := by
              unfold plainEs at h3 ⊢
              simp only [List.all_cons, List.all_nil, Bool.and_true] at h3 ⊢
              exact h3
            exact (star_cons this).1
          refine pt_plain rfl (PE_imp (pe_callB r1 g1 (g.nb _ (by decide)) boot_isinstance (pa_cons pe1 (pa_cons pzz pa_nil rfl) hs2) (by decide) g2 hs2 rfl) fun σ H Q d => ?_)
          obtain ⟨ι, ρ, hh, v, h', a, e, q⟩ := d
          obtain ⟨vs, h1', e1', e⟩ := bind_ok (show (evEs P cf (.cons e1 .nil) ρ hh).bind _ = _ from e)
          obtain ⟨x1, h2', e2', e1'⟩ := bind_ok (show (evE P cf e1 ρ hh).bind _ = _ from e1')
          obtain ⟨x2, h3', e3', e1'⟩ := bind_ok e1'
          cases e3'
          cases e1'
          exact De.go a e2' fun ι1 H1 V1 y1 a1 r1 => ⟨V1, rfl, ι1, _, [x1], v, h', a1.sim, .cons r1 .nil, e, q.mono y1⟩
    · cases h
  | .bm b o es, C, X, e, g, h => by
    cases e <;> first | (exact absurd h Bool.false_ne_true) | skip
    rename_i fn xs kws pos
    cases fn <;> first | (exact absurd h Bool.false_ne_true) | skip
    rename_i y at_ apos
    cases xs <;> first | (exact absurd h Bool.false_ne_true) | skip
    rename_i x xs
    cases kws <;> first | (exact absurd h Bool.false_ne_true) | skip
    have h : (decide (at_ = bmName b) && plainEs (x :: xs) && baseOk y && decide ((x :: xs).length < 30) && (apos.endLine == pos.line) && okE G o C y && okEs G es C (x :: xs)) = true := h
    simp only [Bool.and_eq_true, decide_eq_true_eq] at h
    obtain ⟨⟨⟨⟨⟨⟨rfl, h2⟩, h3⟩, h4⟩, h5⟩, h6⟩, h7⟩ := h
    have pa := (sEs es g h7).1 h2
    obtain ⟨s1, s2⟩ := star_cons (env := X.env) h2
    have few : ((PySem.backTo pos (starEach (x :: xs) X.env)).all (fun x => !x.1) && (backToKw pos (keywordEach [] X.env)).all (fun x => x.1.isSome)
        && decide ((x :: xs).length + ([] : List Keyword).length + (if ([] : List Keyword).isEmpty then 0 else 1) < 30)) = true := by
      rw [star_all h2]
      show (true && true && decide ((x :: xs).length + 0 + 0 < 30)) = true
      simp only [Bool.true_and, decide_eq_true_eq]
      omega
    cases b with
    | append => exact pt_plain rfl (PE_imp (pe_bm PySem.F.plainAttrs_list PySem.F.slot_list_append PySem.F.type_list_append m_append (sE o g h6).1 pa (base_eq h3) few h5 s1 (star_any s2)) fun σ H Q d => d_bm (fun ρ h => rfl) d)
    | index => exact pt_plain rfl (PE_imp (pe_bm PySem.F.plainAttrs_list PySem.F.slot_list_index PySem.F.type_list_index (m_index g.cal) (sE o g h6).1 pa (base_eq h3) few h5 s1 (star_any s2)) fun σ H Q d => d_bm (fun ρ h => rfl) d)
  | .fld o f, C, X, e, g, h => by
    cases e <;> first | (exact absurd h Bool.false_ne_true) | skip
    rename_i y at_ pos
    have h : (decide (at_ = G.nm f) && baseOk y && okE G o C y) = true := h
    simp only [Bool.and_eq_true, decide_eq_true_eq] at h
    obtain ⟨⟨h1, h2⟩, h3⟩ := h
    rw [g.nm] at h1
    subst h1
    exact pt_plain rfl (PE_imp (pe_fld (sE o g h3).1 (base_eq h2)) fun σ H Q d => d_fld (fun ρ h => rfl) g.ob g.fo d)
  | .lrange es, C, X, e, g, h => by
    have h : (match (generalizing := false) e with
      | .Call (.Name l _) [.Call (.Name r _) xs [] _] [] _ => okGl C l && okGl C r && decide (l = "list") && decide (r = "range") && plainEs xs && decide (xs.length = 1 ∨ xs.length = 2) && okEs G es C xs
      | _ => false) = true := h
    split at h
    · rename_i l p r p2 xs pos2 pos _
      simp only [Bool.and_eq_true, decide_eq_true_eq] at h
      obtain ⟨⟨⟨⟨⟨⟨h1, h2⟩, rfl⟩, rfl⟩, h3⟩, h4⟩, h5⟩ := h
      obtain ⟨g1, _⟩ := okGl_ok g h1
      obtain ⟨g2, _⟩ := okGl_ok g h2
      have n1 := g.nb "list" (by decide)
      have n2 := g.nb "range" (by decide)
      rcases xs with _ | ⟨x, _ | ⟨y, _ | ⟨_, _⟩⟩⟩
      · simp at h4
      · cases es with
        | nil => exact absurd h5 Bool.false_ne_true
        | cons e1 es2 =>
          have h5 : (okE G e1 C x && okEs G es2 C []) = true := h5
          rw [Bool.and_eq_true] at h5
          cases es2 with
          | cons => exact absurd h5.2 Bool.false_ne_true
          | nil =>
            refine pt_plain rfl (PE_imp (pe_listRg g.cal.calm g1 n1 (prg_1 g2 n2 (sE e1 g h5.1).1 (star_cons h3).1)) fun σ H Q d => d_lrange1 (f := evE P cf e1) (p := evE P cf (.lrange (.cons e1 .nil))) (fun ρ h => ?_) d)
            show ((evE P cf e1 ρ h).bind fun v h => (Res.ok [] h).bind fun vs h => .ok (v :: vs) h).bind _ = (evE P cf e1 ρ h).bind _
            cases evE P cf e1 ρ h <;> rfl
      · cases es with
        | nil => exact absurd h5 Bool.false_ne_true
        | cons e1 es2 =>
          have h5 : (okE G e1 C x && okEs G es2 C [y]) = true := h5
          rw [Bool.and_eq_true] at h5
          cases es2 with
          | nil => exact absurd h5.2 Bool.false_ne_true
          | cons e2 es3 =>
            have h6 : (okE G e2 C y && okEs G es3 C []) = true := h5.2
            rw [Bool.and_eq_true] at h6
            cases es3 with
            | cons => exact absurd h6.2 Bool.false_ne_true
            | nil =>
              obtain ⟨s1, s2⟩ := star_cons (env := X.env) h3
              obtain ⟨s3, s4⟩ := star_cons (env := X.env) s2
              refine pt_plain rfl (PE_imp (pe_listRg g.cal.calm g1 n1 (prg_2 g2 n2 (sE e1 g h5.1).1 (sE e2 g h6.1).1 s1 s3 (star_any s2))) fun σ H Q d => d_lrange2 (f := evE P cf e1) (g := evE P cf e2) (p := evE P cf (.lrange (.cons e1 (.cons e2 .nil)))) (fun ρ h => ?_) d)
              show ((evE P cf e1 ρ h).bind fun v h => ((evE P cf e2 ρ h).bind fun v h => (Res.ok [] h).bind fun vs h => .ok (v :: vs) h).bind fun vs h => .ok (v :: vs) h).bind _ = (evE P cf e1 ρ h).bind _
              cases evE P cf e1 ρ h with
              | bad => rfl
              | ok v1 h1 =>
                simp only [Res.bind]
                cases evE P cf e2 ρ h1 <;> rfl
      · simp at h4
    · cases h
  | .bad, C, X, e, g, h => pe_none fun ρ h => rfl
  | .dget3 d k x, C, X, e, g, h => by
    have h : (match (generalizing := false) e with
      | .Call (.Attribute y a apos) [z, u] [] pos => decide (a = "get") && plainEs [z, u] && baseOk y && (apos.endLine == pos.line) && okE G d C y && okE G k C z && okE G x C u
      | _ => false) = true := h
    split at h
    case h_2 => cases h
    rename_i y a apos z u pos _
    simp only [Bool.and_eq_true, decide_eq_true_eq] at h
    obtain ⟨⟨⟨⟨⟨⟨rfl, h2⟩, h3⟩, h5⟩, h6⟩, h7⟩, h8⟩ := h
    have few : ((PySem.backTo pos (starEach [z, u] X.env)).all (fun x => !x.1) && (backToKw pos (keywordEach [] X.env)).all (fun x => x.1.isSome)
        && decide (([z, u] : List Expr).length + ([] : List Keyword).length + (if ([] : List Keyword).isEmpty then 0 else 1) < 30)) = true := by
      rw [star_all h2]; rfl
    obtain ⟨s1, s2⟩ := star_cons (env := X.env) h2
    obtain ⟨s3, s4⟩ := star_cons (env := X.env) s2
    have trees : PySem.backTo pos (starEach [z, u] X.env) = [(false, eval z X.env), (false, eval u X.env)] := by rw [s1, s3]; rfl
    exact pt_plain rfl (pe_get3 g.cal (sE d g h6).1 (sE k g h7).1 (sE x g h8).1 ⟨base_eq h3, few, h5, trees⟩ fun ρ h => rfl)
  | .dc own t it c ek el, C, X, e, g, h => by
    have h : (match (generalizing := false) e with
      | .DictComp y x [⟨tg, iter, ifs, 0⟩] scope _ => okBlk C own t tg scope && okI G it C tg iter && okC G c (C.in_ scope) ifs && okE G ek (C.in_ scope) y && okE G el (C.in_ scope) x
      | _ => false) = true := h
    split at h
    case h_2 => cases h
    rename_i y x tg iter ifs scope pos _
    simp only [Bool.and_eq_true] at h
    obtain ⟨⟨⟨⟨h1, h2⟩, h3⟩, h5⟩, h4⟩ := h
    obtain ⟨b1, b2, b3, b4, b5⟩ := blk_ok g h1
    refine pt_plain rfl (PE_imp (pe_dc (g := gT X.K t) g.cal.calm (by rw [g.N]; exact g.nd) (sI it g h2).1 b1 (fun s H c cl fp => okT_ok (g.blk b5 s H c cl fp) b3) (fun s H c' cl fp => sC c (g.blk b5 s H c' cl fp) h3) (fun s H c cl fp => (sE ek (g.blk b5 s H c cl fp) h5).1) (fun s H c cl fp => (sE el (g.blk b5 s H c cl fp) h4).1) ((sI it g h2).2 _)) fun σ H Q d => ?_)
    rw [b2]
    exact d_dc b4 d
  | .lenset a, C, X, e, g, h => by
    have h : (match (generalizing := false) e with
      | .Call (.Name l _) [.Call (.Name r _) [y] [] _] [] _ => okGl C l && okGl C r && decide (l = "len") && decide (r = "set") && plainEs [y] && okE G a C y
      | _ => false) = true := h
    split at h
    · rename_i l p r p2 y pos2 pos _
      simp only [Bool.and_eq_true, decide_eq_true_eq] at h
      obtain ⟨⟨⟨⟨⟨h1, h2⟩, rfl⟩, rfl⟩, h3⟩, h5⟩ := h
      obtain ⟨g1, _⟩ := okGl_ok g h1
      obtain ⟨g2, _⟩ := okGl_ok g h2
      have n1 := g.nb "len" (by decide)
      have n2 := g.nb "set" (by decide)
      exact pt_plain rfl (PE_imp (pe_lenSet' g1 n1 g2 n2 (sE a g h5).1 g.cal.calm (star_cons h3).1) fun σ H Q d => d_lenset (f := evE P cf a) (p := evE P cf (.lenset a)) g.cal.K (fun ρ h => rfl) d)
    · cases h
  | .lc own t it c el, C, X, e, g, h => by
    have h : (match (generalizing := false) e with
      | .ListComp x [⟨tg, iter, ifs, 0⟩] scope _ => okBlk C own t tg scope && okI G it C tg iter && okC G c (C.in_ scope) ifs && okE G el (C.in_ scope) x
      | _ => false) = true := h
    split at h
    case h_2 => cases h
    rename_i x tg iter ifs scope pos _
    simp only [Bool.and_eq_true] at h
    obtain ⟨⟨⟨h1, h2⟩, h3⟩, h4⟩ := h
    obtain ⟨b1, b2, b3, b4, b5⟩ := blk_ok g h1
    have parts : Parts X scope (ownN C own) tg iter (Di T (evI P cf it)) (gT X.K t) ifs (Dc T (evC P cf c)) x (De T (evE P cf el)) :=
      ⟨(sI it g h2).1, b1, ⟨fun s H c cl fp => okT_ok (g.blk b5 s H c cl fp) b3, fun s H c' cl fp => sC c (g.blk b5 s H c' cl fp) h3, fun s H c cl fp => (sE el (g.blk b5 s H c cl fp) h4).1⟩, (sI it g h2).2 _⟩
    refine pt_plain rfl (PE_imp (e_lc g.cal.calm (by rw [g.N]; exact g.nd) parts) fun σ H Q d => ?_)
    rw [b2]
    exact d_lc b4 d
  | .sc own t it c el, C, X, e, g, h => by
    have h : (match (generalizing := false) e with
      | .SetComp x [⟨tg, iter, ifs, 0⟩] scope _ => okBlk C own t tg scope && okI G it C tg iter && okC G c (C.in_ scope) ifs && okE G el (C.in_ scope) x
      | _ => false) = true := h
    split at h
    case h_2 => cases h
    rename_i x tg iter ifs scope pos _
    simp only [Bool.and_eq_true] at h
    obtain ⟨⟨⟨h1, h2⟩, h3⟩, h4⟩ := h
    obtain ⟨b1, b2, b3, b4, b5⟩ := blk_ok g h1
    have parts : Parts X scope (ownN C own) tg iter (Di T (evI P cf it)) (gT X.K t) ifs (Dc T (evC P cf c)) x (De T (evE P cf el)) :=
      ⟨(sI it g h2).1, b1, ⟨fun s H c cl fp => okT_ok (g.blk b5 s H c cl fp) b3, fun s H c' cl fp => sC c (g.blk b5 s H c' cl fp) h3, fun s H c cl fp => (sE el (g.blk b5 s H c cl fp) h4).1⟩, (sI it g h2).2 _⟩
    refine pt_plain rfl (PE_imp (e_sc g.cal.calm (by rw [g.N]; exact g.nd) parts) fun σ H Q d => ?_)
    rw [b2, g.cal.w]
    exact d_sc b4 d
theorem sEs : ∀ (es : IEs) {C : CC} {X : Cx} {xs : List Expr}, Gd G T P cf C X → okEs G es C xs = true →
    (plainEs xs = true → PA X xs (Da T (evEs P cf es))) ∧ (∀ kws, kwVals kws = xs → PK X kws (Da T (evEs P cf es))) ∧ (∀ pos ks keys, okKeys ks keys = true → keys.length = xs.length → PPs X pos keys xs (trsOf T P cf ks es))
  | .nil, C, X, xs, g, h => by
    cases xs with
    | cons => exact absurd h Bool.false_ne_true
    | nil =>
      refine ⟨fun _ => PA_imp pa_nil fun σ H Q d => d_nil (fun ρ h => rfl) d, fun kws e => ?_, fun pos ks keys hk hl => ?_⟩
      · cases kws with
        | cons => cases e
        | nil => exact PK_imp pk_nil fun σ H Q d => d_nil (fun ρ h => rfl) d
      · cases keys with
        | cons => cases hl
        | nil =>
          have : trsOf T P cf ks .nil = [] := by cases ks <;> rfl
          rw [this]
          exact pps_nil
  | .cons e es, C, X, xs, g, h => by
    cases xs with
    | nil => exact absurd h Bool.false_ne_true
    | cons x xs =>
      have h : (okE G e C x && okEs G es C xs) = true := h
      rw [Bool.and_eq_true] at h
      have he := (sE e g h.1).1
      obtain ⟨r1, r2, r3⟩ := sEs es g h.2
      refine ⟨fun hp => ?_, fun kws eq => ?_, fun pos ks keys hk hl => ?_⟩
      · obtain ⟨s1, s2⟩ := star_cons (env := X.env) hp
        exact PA_imp (pa_cons he (r1 s2) s1) fun σ H Q d => d_cons (fun ρ h => rfl) d
      · cases kws with
        | nil => cases eq
        | cons kw kws =>
          obtain ⟨nm, v, p⟩ := kw
          injection eq with eq1 eq2
          subst eq1
          exact PK_imp (pk_cons he (r2 kws eq2)) fun σ H Q d => d_cons (fun ρ h => rfl) d
      · cases keys with
        | nil => cases hl
        | cons key keys =>
          cases ks with
          | nil => cases hk
          | cons k ks =>
            have hk : (okKey k key && okKeys ks keys) = true := hk
            rw [Bool.and_eq_true] at hk
            obtain ⟨y, rfl, hk1⟩ := key_ok (X := X) hk.1
            exact pps_cons hk1 he (r3 pos ks keys hk.2 (by simpa using hl))
theorem sO : ∀ (o : IO) {C : CC} {X : Cx} {x : Option Expr}, Gd G T P cf C X → okO G o C x = true → PO X x (Do T (evO P cf o))
  | .no, C, X, x, g, h => by
    cases x with
    | some => exact absurd h Bool.false_ne_true
    | none => exact ⟨fun pins s σ H Q I d => po_none.run pins s σ H Q I (do_no (fun ρ h => rfl) d)⟩
  | .so e, C, X, x, g, h => by
    cases x with
    | none => exact absurd h Bool.false_ne_true
    | some x => exact ⟨fun pins s σ H Q I d => (po_some (sE e g (show okE G e C x = true from h)).1).run pins s σ H Q I (do_so (fun ρ h => rfl) d)⟩
theorem sC : ∀ (o : IO) {C : CC} {X : Cx} {x : List Expr}, Gd G T P cf C X → okC G o C x = true → PTs X x (Dc T (evC P cf o))
  | .no, C, X, x, g, h => by
    cases x with
    | cons => exact absurd h Bool.false_ne_true
    | nil => exact ⟨fun pins s σ H Q I d => pts_nil.run pins s σ H Q I (dc_no (fun ρ h => rfl) d)⟩
  | .so e, C, X, x, g, h => by
    rcases x with _ | ⟨x, _ | ⟨_, _⟩⟩
    · exact absurd h Bool.false_ne_true
    · exact ⟨fun pins s σ H Q I d => (pts_one (sE e g (show okE G e C x = true from h)).2).run pins s σ H Q I (dc_so (fun ρ h => rfl) d)⟩
    · exact absurd h Bool.false_ne_true
theorem sI : ∀ (it : IIt) {C : CC} {X : Cx} {tg x : Expr}, Gd G T P cf C X → okI G it C tg x = true → PI X tg x (Di T (evI P cf it)) ∧ ∀ env v, foldedSetIterable x env v = pure v
  | .seq e, C, X, tg, x, g, h => by
    have h : (noSet x && okE G e C x) = true := h
    rw [Bool.and_eq_true] at h
    have he := (sE e g h.2).1
    exact ⟨PI_imp (PI_or (pi_list he) (pi_tup he)) fun σ H R d => d_seq g.cal.K (fun ρ h => rfl) d, fun env => noSet_of h.1⟩
  | .range es, C, X, tg, e, g, h => by
    cases e <;> first | (exact absurd h Bool.false_ne_true) | skip
    rename_i fn xs kws pos
    cases fn <;> first | (exact absurd h Bool.false_ne_true) | skip
    rename_i r p
    cases kws <;> first | (exact absurd h Bool.false_ne_true) | skip
    have h : (okGl C r && decide (r = "range") && plainEs xs && decide (xs.length = 1 ∨ xs.length = 2) && okEs G es C xs) = true := h
    simp only [Bool.and_eq_true, decide_eq_true_eq] at h
    obtain ⟨⟨⟨⟨h1, rfl⟩, h3⟩, h4⟩, h5⟩ := h
    obtain ⟨g1, _⟩ := okGl_ok g h1
    have n1 := g.nb "range" (by decide)
    refine ⟨?_, fun env v => rfl⟩
    rcases xs with _ | ⟨x, _ | ⟨y, _ | ⟨_, _⟩⟩⟩
    · simp at h4
    · cases es with
      | nil => exact absurd h5 Bool.false_ne_true
      | cons e1 es2 =>
        have h5 : (okE G e1 C x && okEs G es2 C []) = true := h5
        rw [Bool.and_eq_true] at h5
        cases es2 with
        | cons => exact absurd h5.2 Bool.false_ne_true
        | nil =>
          have s1 := (star_cons (env := X.env) h3).1
          refine PI_imp (pi_range1 g1 n1 (pa_cons (sE e1 g h5.1).1 pa_nil s1) s1) fun σ H R d => d_rng1 (f := evE P cf e1) (p := evI P cf (.range (.cons e1 .nil))) (fun ρ h => ?_) d
          show ((evE P cf e1 ρ h).bind fun v h => (Res.ok [] h).bind fun vs h => .ok (v :: vs) h).bind _ = (evE P cf e1 ρ h).bind _
          cases evE P cf e1 ρ h <;> rfl
    · cases es with
      | nil => exact absurd h5 Bool.false_ne_true
      | cons e1 es2 =>
        have h5 : (okE G e1 C x && okEs G es2 C [y]) = true := h5
        rw [Bool.and_eq_true] at h5
        cases es2 with
        | nil => exact absurd h5.2 Bool.false_ne_true
        | cons e2 es3 =>
          have h6 : (okE G e2 C y && okEs G es3 C []) = true := h5.2
          rw [Bool.and_eq_true] at h6
          cases es3 with
          | cons => exact absurd h6.2 Bool.false_ne_true
          | nil =>
            obtain ⟨s1, s2⟩ := star_cons (env := X.env) h3
            obtain ⟨s3, s4⟩ := star_cons (env := X.env) s2
            refine PI_imp (pi_range2 g1 n1 (pa_cons (sE e1 g h5.1).1 (pa_cons (sE e2 g h6.1).1 pa_nil s3) s1) (by rw [s1, s3]; rfl) (by rw [s3]; rfl)) fun σ H R d => d_rng2 (f := evE P cf e1) (g := evE P cf e2) (p := evI P cf (.range (.cons e1 (.cons e2 .nil)))) (fun ρ h => ?_) d
            show ((evE P cf e1 ρ h).bind fun v h => ((evE P cf e2 ρ h).bind fun v h => (Res.ok [] h).bind fun vs h => .ok (v :: vs) h).bind fun vs h => .ok (v :: vs) h).bind _ = (evE P cf e1 ρ h).bind _
            cases evE P cf e1 ρ h with
            | bad => rfl
            | ok v1 h1 =>
              simp only [Res.bind]
              cases evE P cf e2 ρ h1 <;> rfl
    · simp at h4
  | .enum e, C, X, tg, x, g, h => by
    have h : (isTup tg && (match (generalizing := false) x with
      | .Call (.Name r _) [y] [] _ => okGl C r && decide (r = "enumerate") && plainEs [y] && okE G e C y
      | _ => false)) = true := h
    rw [Bool.and_eq_true] at h
    obtain ⟨h0, h'⟩ := h
    obtain ⟨elts, kk, tpos, rfl⟩ : ∃ a b c, tg = .Tuple a b c := by cases tg <;> first | (cases h0; done) | exact ⟨_, _, _, rfl⟩
    clear h
    split at h'
    case h_2 => cases h'
    have h := h'
    simp only [Bool.and_eq_true, decide_eq_true_eq] at h
    obtain ⟨⟨⟨h1, rfl⟩, h3⟩, h4⟩ := h
    obtain ⟨g1, _⟩ := okGl_ok g h1
    have n1 := g.nb "enumerate" (by decide)
    have s1 := (star_cons (env := X.env) h3).1
    have he := (sE e g h4).1
    exact ⟨PI_imp (PI_or (pi_enum g1 n1 (pa_cons he pa_nil s1) s1) (pi_enumT g1 n1 (pa_cons he pa_nil s1) s1)) fun σ H R d => d_enum g.cal.K (fun ρ h => rfl) d, fun env v => rfl⟩
  | .zip a b, C, X, tg, x, g, h => by
    have h : (isTup tg && (match (generalizing := false) x with
      | .Call (.Name r _) [y, z] [] _ => okGl C r && decide (r = "zip") && plainEs [y, z] && okE G a C y && okE G b C z
      | _ => false)) = true := h
    rw [Bool.and_eq_true] at h
    obtain ⟨h0, h'⟩ := h
    obtain ⟨elts, kk, tpos, rfl⟩ : ∃ a b c, tg = .Tuple a b c := by cases tg <;> first | (cases h0; done) | exact ⟨_, _, _, rfl⟩
    clear h
    split at h'
    case h_2 => cases h'
    have h := h'
    simp only [Bool.and_eq_true, decide_eq_true_eq] at h
    obtain ⟨⟨⟨⟨h1, rfl⟩, h3⟩, h4⟩, h5⟩ := h
    obtain ⟨g1, _⟩ := okGl_ok g h1
    have n1 := g.nb "zip" (by decide)
    obtain ⟨s1, s2⟩ := star_cons (env := X.env) h3
    obtain ⟨s3, s4⟩ := star_cons (env := X.env) s2
    exact ⟨PI_imp (RZ.pi_zipA g1 n1 (pa_cons (sE a g h4).1 (pa_cons (sE b g h5).1 pa_nil s3) s1) s1 (star_any s2)) fun σ H R d => d_zip g.cal.K (fun ρ h => rfl) d, fun env v => rfl⟩
end
end
end Z

set_option maxRecDepth 100000
/-! Z20: statements: the check, and that what it passes is so. -/
namespace Z
open PySem PySem.Spec PyProof.Rows
open L2

/-! ### name = [..] on one line: the list goes to the name ahead of the loop's frame's end -/
def swF (C : CC) (value tg : Expr) : Bool := match tg with
  | .Name t pos => (match value with
    | .ListComp _ _ s p | .SetComp _ _ s p | .DictComp _ _ _ s p => (C.sc.names.lookup t == some .local) && (pos.line == p.line) && !(s.names.any fun (n, k) => n == t && (k == .local || k == .cell))
    | _ => false)
  | _ => false
def noComp (e : Expr) : Bool := match e with
  | .ListComp .. | .SetComp .. | .DictComp .. => false
  | _ => true
section
variable {G : Gt} {T : Tb} {P : Pg} {cf : CF} {C : CC} {X : Cx}
theorem blockKind_ok (g : Gd G T P cf C X) : X.env.blockKind = .function := by
  unfold Env.blockKind
  rw [g.sc, g.kd]
  rfl
theorem swaps_eq (g : Gd G T P cf C X) (value tg : Expr) (l : Nat) : swapsWith value (some tg) l X.env = pure (swF C value tg) := by
  have hb := blockKind_ok g
  have hk : ∀ t, X.env.kindOf t = C.sc.names.lookup t := fun t => by show X.env.scope.names.lookup t = _; rw [g.sc]
  cases value <;> first
    | (cases tg <;> rfl)
    | (cases tg <;> first
        | rfl
        | (unfold swapsWith swF
           simp only [hb, hk, Expr.pos]
           rfl))
theorem swaps_none {value : Expr} (h : noComp value = true) (l : Nat) (env : PySem.Env) : swapsWith value none l env = pure false := by
  cases value <;> first | rfl | cases h

/-! ### names stored from the right -/
def isStar (e : Expr) : Bool := match e with
  | .Starred .. => true
  | _ => false
def ssNames (sc : Scope) (line : Nat) (ts : List Expr) : List Str := ts.filterMap fun e => match e with
  | .Name id pos => if sc.names.lookup id == some .local && pos.line == line then some id else none
  | _ => none
def ssLine (ts : List Expr) : Nat := (ts.head?.map (·.pos.line)).getD 0
def ssP (sc : Scope) (ts vs : List Expr) : Option (Option (List Str)) :=
  if !(ts.length == 2 || ts.length == 3) || vs.length != ts.length then some none
  else if vs.any isStar then some none
  else if (ssNames sc (ssLine ts) ts).length != ts.length || (ssNames sc (ssLine ts) ts).eraseDups.length != (ssNames sc (ssLine ts) ts).length then some none
  else if vs.all (foldedForSure 8) then some none
  else if vs.all (constantsAlone 8) then none
  else some (some (ssNames sc (ssLine ts) ts))
theorem ssP_ok (g : Gd G T P cf C X) {ts vs : List Expr} {k k2 : Nat} {p p2 : Pos} {r : Option (List Str)} (h : ssP C.sc ts vs = some r) : swappedStores [.Tuple ts k p] (.Tuple vs k2 p2) X.env = pure r := by
  have hb := blockKind_ok g
  rw [← g.sc] at h
  have body : swappedStores [.Tuple ts k p] (.Tuple vs k2 p2) X.env = (if (!(ts.length == 2 || ts.length == 3) || vs.length != ts.length || X.env.blockKind != .function) = true then (pure none : Sem (Option (List Str))) else
      if (vs.any isStar) = true then pure none else
      if ((ssNames X.env.scope (ssLine ts) ts).length != ts.length || (ssNames X.env.scope (ssLine ts) ts).eraseDups.length != (ssNames X.env.scope (ssLine ts) ts).length) = true then pure none else
      if vs.all (foldedForSure 8) = true then pure none else
      if vs.all (constantsAlone 8) = true then (do let _ ← (unsupported "assign.tuple-of-constant-expressions:order-of-the-stores" : Sem PUnit); pure (some (ssNames X.env.scope (ssLine ts) ts))) else pure (some (ssNames X.env.scope (ssLine ts) ts))) := rfl
  rw [body, hb]
  unfold ssP at h
  generalize ssNames X.env.scope (ssLine ts) ts = names at h ⊢
  split at h
  · rename_i c1
    cases h
    rw [if_pos (by rw [Bool.or_eq_true]; exact .inl c1)]
  · rename_i c1
    rw [if_neg (by
      rw [Bool.or_eq_true]
      rintro (z | z)
      · exact c1 z
      · exact absurd z (by decide))]
    split at h
    · rename_i c2; cases h; rw [if_pos c2]
    · rename_i c2
      rw [if_neg c2]
      split at h
      · rename_i c3; cases h; rw [if_pos c3]
      · rename_i c3
        rw [if_neg c3]
        split at h
        · rename_i c4; cases h; rw [if_pos c4]
        · rename_i c4
          rw [if_neg c4]
          split at h
          · cases h
          · rename_i c5; cases h; rw [if_neg c5]
end
end Z

set_option maxRecDepth 100000
/-! Z21: statements: the check, and that what it passes is so. -/
namespace Z
open PySem PySem.Spec PyProof.Rows
open L2

def okAsg (G : Gt) (C : CC) (t : Tg) (e : IE) (tg value : Expr) : Bool :=
  okT C t tg && okE G e C value && !swF C value tg && (match tg, value with
    | .Tuple ts _ _, .Tuple vs _ _ => decide (ssP C.sc ts vs = some none)
    | _, _ => true)
def okPar (G : Gt) (C : CC) (i j : Nat) (a b : IE) (tg value : Expr) : Bool := match tg, value with
  | .Tuple [.Name x px, .Name y py] k p, .Tuple [u, v] k2 p2 => okLoc C x i && okLoc C y j && decide (i ≠ j) && plainEs [u, v] && decide (ssP C.sc [.Name x px, .Name y py] [u, v] = some (some [x, y])) && okE G a C u && okE G b C v
  | _, _ => false
def okPar3 (G : Gt) (C : CC) (i j l : Nat) (a b c : IE) (tg value : Expr) : Bool := match tg, value with
  | .Tuple [.Name x px, .Name y py, .Name z pz] k p, .Tuple [u, v, w] k2 p2 => okLoc C x i && okLoc C y j && okLoc C z l && decide (i ≠ j) && decide (i ≠ l) && decide (j ≠ l) && plainEs [u, v, w] && decide (ssP C.sc [.Name x px, .Name y py, .Name z pz] [u, v, w] = some (some [x, y, z])) && okE G a C u && okE G b C v && okE G c C w
  | _, _ => false
def okComp (G : Gt) (C : CC) (i : Nat) (e : IE) (tg value : Expr) : Bool := match tg with
  | .Name x _ => okLoc C x i && swF C value tg && (match e with
    | .lc .. => okE G e C value
    | .sc .. => okE G e C value
    | _ => false)
  | _ => false
def okSet2 (G : Gt) (C : CC) (a b o i p j : IE) (tg value : Expr) : Bool := match tg, value with
  | .Tuple [.Subscript o' i' _, .Subscript p' j' _] _ _, .Tuple [u, v] _ _ => plainEs [u, v] && noSlice i' && noSlice j' && decide (ssP C.sc (match tg with | .Tuple ts _ _ => ts | _ => []) [u, v] = some none) &&
      okE G a C u && okE G b C v && okE G o C o' && okE G i C i' && okE G p C p' && okE G j C j'
  | _, _ => false
def okAug (o : Op2) (p : Operator) : Bool := match o, p with
  | .add, .Add | .sub, .Sub | .mul, .Mult => true
  | _, _ => false
mutual
def okS (G : Gt) : IS → CC → Stmt → Bool
  | .asg t e, C, s => (match s with
    | .Assign [tg] value _ => okAsg G C t e tg value || (match t, e with
      | .tp [i, j], .tup (.cons a (.cons b .nil)) => okPar G C i j a b tg value
      | .tp [i, j, l], .tup (.cons a (.cons b (.cons c .nil))) => okPar3 G C i j l a b c tg value
      | .nm i, e => okComp G C i e tg value
      | _, _ => false)
    | _ => false)
  | .setIx o i e, C, s => (match s with
    | .Assign [.Subscript o' i' _] value _ => noSlice i' && okE G e C value && okE G o C o' && okE G i C i'
    | _ => false)
  | .setIx2 a b o i p j, C, s => (match s with
    | .Assign [tg] value _ => okSet2 G C a b o i p j tg value
    | _ => false)
  | .setFld o f e, C, s => (match s with
    | .Assign [.Attribute o' a _] value _ => decide (a = G.nm f) && okE G e C value && okE G o C o'
    | _ => false)
  | .aug i o e, C, s => (match s with
    | .AugAssign (.Name x _) op value _ => okSto C x i && okAug o op && okE G e C value
    | _ => false)
  | .expr e, C, s => (match s with
    | .Expr value _ => noComp value && okE G e C value
    | _ => false)
  | .ret e, C, s => (match s with
    | .Return (some value) _ => okE G e C value
    | .Return none _ => (match e with
      | .con .non => true
      | _ => false)
    | _ => false)
  | .cond c a b, C, s => (match s with
    | .If test body orelse _ => okE G c C test && okSs G a C body && okSs G b C orelse
    | _ => false)
  | .loop t it b, C, s => (match s with
    | .For tg iter body [] _ => okT C t tg && okI G it C tg iter && okSs G b C body
    | _ => false)
  | .whil c b, C, s => (match s with
    | .While test body [] _ => okE G c C test && okSs G b C body
    | _ => false)
  | .pass, _, s => (match s with
    | .Pass _ => true
    | .Expr (.Constant (.str _) _ _) _ => true
    | _ => false)
  | .brk, _, s => (match s with
    | .Break _ => true
    | _ => false)
  | .cont, _, s => (match s with
    | .Continue _ => true
    | _ => false)
  | .raise, _, s => true
def okSs (G : Gt) : ISs → CC → List Stmt → Bool
  | .nil, _, ss => (match ss with
    | [] => true
    | _ => false)
  | .cons s r, C, ss => (match ss with
    | x :: xs => okS G s C x && okSs G r C xs
    | _ => false)
end

section
variable {G : Gt} {T : Tb} {P : Pg} {cf : CF} {C : CC} {X : Cx}
theorem stores_none (g : Gd G T P cf C X) {tg value : Expr} (h : (match tg, value with
    | .Tuple ts _ _, .Tuple vs _ _ => decide (ssP C.sc ts vs = some none)
    | _, _ => true) = true) (hl : ∀ es p, tg ≠ .List es p) : swappedStores [tg] value X.env = pure none := by
  cases tg with
  | List es p => exact absurd rfl (hl es p)
  | Tuple ts k p =>
    cases value with
    | Tuple vs k2 p2 => exact ssP_ok g (of_decide_eq_true h)
    | _ => rfl
  | _ => rfl
theorem asg_ok (g : Gd G T P cf C X) {t : Tg} {e : IE} {tg value : Expr} {pos : Pos} (h : okAsg G C t e tg value = true) : PS X (.Assign [tg] value pos) (tAsg (De T (evE P cf e)) (gT X.K t)) := by
  unfold okAsg at h
  rw [Bool.and_eq_true, Bool.and_eq_true, Bool.and_eq_true, Bool.not_eq_true'] at h
  obtain ⟨⟨⟨h1, h2⟩, h3⟩, h4⟩ := h
  have hl : ∀ es p, tg ≠ .List es p := by
    rintro es p rfl
    cases t <;> exact absurd h1 Bool.false_ne_true
  refine ps_asg (sE e g h2).1 (okT_ok g h1) ?_ (stores_none g h4 hl) ?_
  · show swapsWith value (some tg) pos.line X.env = pure false
    rw [swaps_eq g, h3]
  · cases tg <;> first | rfl | (cases t <;> exact absurd h1 Bool.false_ne_true)
theorem par_ok (g : Gd G T P cf C X) {i j : Nat} {a b : IE} {tg value : Expr} {pos : Pos} (h : okPar G C i j a b tg value = true) : PS X (.Assign [tg] value pos) (tPar i j (tCons (De T (evE P cf a)) (tCons (De T (evE P cf b)) tNil))) := by
  unfold okPar at h
  split at h
  case h_2 => cases h
  simp only [Bool.and_eq_true, decide_eq_true_eq] at h
  obtain ⟨⟨⟨⟨⟨⟨h1, h2⟩, h3⟩, h4⟩, h5⟩, h6⟩, h7⟩ := h
  obtain ⟨x1, x2⟩ := okLoc_ok g h1
  obtain ⟨y1, y2⟩ := okLoc_ok g h2
  obtain ⟨s1, s2⟩ := star_cons (env := X.env) h4
  obtain ⟨s3, _⟩ := star_cons (env := X.env) s2
  exact ps_par g.cal.calm (by rw [g.N]; exact g.nd) x1 y1 h3 x2 y2 (pa_cons (sE a g h6).1 (pa_cons (sE b g h7).1 pa_nil s3) s1) (ssP_ok g h5)
theorem par3_ok (g : Gd G T P cf C X) {i j l : Nat} {a b c : IE} {tg value : Expr} {pos : Pos} (h : okPar3 G C i j l a b c tg value = true) : PS X (.Assign [tg] value pos) (tPar3 i j l (tCons (De T (evE P cf a)) (tCons (De T (evE P cf b)) (tCons (De T (evE P cf c)) tNil)))) := by
  unfold okPar3 at h
  split at h
  case h_2 => cases h
  simp only [Bool.and_eq_true, decide_eq_true_eq] at h
  obtain ⟨⟨⟨⟨⟨⟨⟨⟨⟨⟨h1, h2⟩, h2'⟩, h3⟩, h3'⟩, h3''⟩, h4⟩, h5⟩, h6⟩, h7⟩, h8⟩ := h
  obtain ⟨x1, x2⟩ := okLoc_ok g h1
  obtain ⟨y1, y2⟩ := okLoc_ok g h2
  obtain ⟨z1, z2⟩ := okLoc_ok g h2'
  obtain ⟨s1, s2⟩ := star_cons (env := X.env) h4
  obtain ⟨s3, s4⟩ := star_cons (env := X.env) s2
  obtain ⟨s5, _⟩ := star_cons (env := X.env) s4
  exact ps_par3 g.cal.calm (by rw [g.N]; exact g.nd) x1 y1 z1 h3 h3' h3'' x2 y2 z2 (pa_cons (sE a g h6).1 (pa_cons (sE b g h7).1 (pa_cons (sE c g h8).1 pa_nil s5) s3) s1) (ssP_ok g h5)
/-- a comprehension's parts, told by the check -/
theorem lc_of (g : Gd G T P cf C X) {own : List Nat} {t : Tg} {it : IIt} {c : IO} {el : IE} {e : Expr} (h : okE G (.lc own t it c el) C e = true) : ∃ x tg iter ifs scope pos, e = .ListComp x [⟨tg, iter, ifs, 0⟩] scope pos ∧ (ownN C own).map (·.2) = own ∧ tgIs t ⊆ own ∧
    Parts X scope (ownN C own) tg iter (Di T (evI P cf it)) (gT X.K t) ifs (Dc T (evC P cf c)) x (De T (evE P cf el)) := by
  have h : (match (generalizing := false) e with
    | .ListComp x [⟨tg, iter, ifs, 0⟩] scope _ => okBlk C own t tg scope && okI G it C tg iter && okC G c (C.in_ scope) ifs && okE G el (C.in_ scope) x
    | _ => false) = true := h
  split at h
  case h_2 => cases h
  rename_i x tg iter ifs scope pos _
  simp only [Bool.and_eq_true] at h
  obtain ⟨⟨⟨h1, h2⟩, h3⟩, h4⟩ := h
  obtain ⟨b1, b2, b3, b4, b5⟩ := blk_ok g h1
  exact ⟨x, tg, iter, ifs, scope, pos, rfl, b2, b4, (sI it g h2).1, b1, ⟨fun s H c cl fp => okT_ok (g.blk b5 s H c cl fp) b3, fun s H c' cl fp => sC c (g.blk b5 s H c' cl fp) h3, fun s H c cl fp => (sE el (g.blk b5 s H c cl fp) h4).1⟩, (sI it g h2).2 _⟩
theorem sc_of (g : Gd G T P cf C X) {own : List Nat} {t : Tg} {it : IIt} {c : IO} {el : IE} {e : Expr} (h : okE G (.sc own t it c el) C e = true) : ∃ x tg iter ifs scope pos, e = .SetComp x [⟨tg, iter, ifs, 0⟩] scope pos ∧ (ownN C own).map (·.2) = own ∧ tgIs t ⊆ own ∧
    Parts X scope (ownN C own) tg iter (Di T (evI P cf it)) (gT X.K t) ifs (Dc T (evC P cf c)) x (De T (evE P cf el)) := by
  have h : (match (generalizing := false) e with
    | .SetComp x [⟨tg, iter, ifs, 0⟩] scope _ => okBlk C own t tg scope && okI G it C tg iter && okC G c (C.in_ scope) ifs && okE G el (C.in_ scope) x
    | _ => false) = true := h
  split at h
  case h_2 => cases h
  rename_i x tg iter ifs scope pos _
  simp only [Bool.and_eq_true] at h
  obtain ⟨⟨⟨h1, h2⟩, h3⟩, h4⟩ := h
  obtain ⟨b1, b2, b3, b4, b5⟩ := blk_ok g h1
  exact ⟨x, tg, iter, ifs, scope, pos, rfl, b2, b4, (sI it g h2).1, b1, ⟨fun s H c cl fp => okT_ok (g.blk b5 s H c cl fp) b3, fun s H c' cl fp => sC c (g.blk b5 s H c' cl fp) h3, fun s H c cl fp => (sE el (g.blk b5 s H c cl fp) h4).1⟩, (sI it g h2).2 _⟩
/-- name = {..} on one line -/
theorem s_setSc {i : Nat} {y : Str} {py : Pos} {elt tg iter : Expr} {ifs : List Expr} {scope : Scope} {own : List (Str × Nat)} {pos spos : Pos} {wi : TI} {gg : TG} {tt : TT} {te : TE} (hc : X.calm = true) (hN : X.N.Nodup) (hy : X.N[i]? = some y)
    (hyl : X.env.scope.names.lookup y = some .local) (hsw : swapsWith (.SetComp elt [⟨tg, iter, ifs, 0⟩] scope pos) (some (.Name y py)) spos.line X.env = pure true) (p : Parts X scope own tg iter wi gg ifs tt elt te) :
    PS X (.Assign [.Name y py] (.SetComp elt [⟨tg, iter, ifs, 0⟩] scope pos) spos) (tAsg (tScI X.w wi gg tt te (own.map (·.2))) (gName i)) := by
  refine ⟨fun pins s σ H D I h => ?_⟩
  rw [exec_Assign_Name_used _ _ _ _ hsw]
  refine wpAny_bind (wpAny_standAt (wpAny_bind ?_))
  show wpAny _ X.A (do let _ ← comprehension (.SetComp elt [⟨tg, iter, ifs, 0⟩] scope pos) scope X.env (firstIterPos [⟨tg, iter, ifs, 0⟩] pos) (newSet (.type "set")) false (eval iter X.env) (some (assign (.Name y py) X.env))) _ _ s
  have h : tScI X.w wi gg tt te (own.map (·.2)) σ H (fun x H1 => gName i x σ H1 D.nx) := h
  refine wpAny_bind (thn (core_sc (Qf := fun _ s' => SP X pins D .next s') hc hN I p.i_ p.ok p.bk p.hs h fun L c s' m H' I' q hn f => ?_) fun _ s' hq => wpAny_pure (wpAny_pure hq))
  show wpAny _ _ (assign (.Name y py) X.env (.ref L)) _ _ _
  refine wpAny_assign_Name (store_ok2 (v := V.ref L) I' hN hy (.inl hyl) rfl (fun s2 I2 ⟨a, sb, ha⟩ => ?_) (.inr hyl))
  obtain ⟨f0, f1, f2, f3, f4, f5⟩ := f
  have apart : c ≠ a := ha.elim (fun z => by rw [z]; exact f1) fun z e => f4 y a z e.symm
  refine ⟨m, hn.sameBut sb apart, fun h3 sb3 => ?_⟩
  exact ⟨_, H', I2.turned (t' := s2.toks) (fun b o hb e => (sb3.2 b hb).trans e) f0 f1 f3 f4 f5, q⟩
theorem comp_ok (g : Gd G T P cf C X) {i : Nat} {e : IE} {tg value : Expr} {pos : Pos} (h : okComp G C i e tg value = true) : PS X (.Assign [tg] value pos) (tAsg (De T (evE P cf e)) (gName i)) := by
  unfold okComp at h
  split at h
  case h_2 => cases h
  rename_i x px
  rw [Bool.and_eq_true, Bool.and_eq_true] at h
  obtain ⟨⟨h1, h2⟩, h3⟩ := h
  obtain ⟨x1, x2⟩ := okLoc_ok g h1
  have hN : X.N.Nodup := by rw [g.N]; exact g.nd
  split at h3
  · obtain ⟨u, tg, iter, ifs, scope, cp, rfl, b2, b4, pr⟩ := lc_of g h3
    refine PS_imp (ps_setLc g.cal.calm hN x1 x2 (by rw [swaps_eq g, h2]) pr.i_ pr.ok pr.bk.g_ pr.bk.t_ pr.bk.e_ pr.hs) fun D σ H d => ?_
    rw [b2]
    exact d_lc b4 d
  · obtain ⟨u, tg, iter, ifs, scope, cp, rfl, b2, b4, pr⟩ := sc_of g h3
    refine PS_imp (s_setSc g.cal.calm hN x1 x2 (by rw [swaps_eq g, h2]) pr) fun D σ H d => ?_
    rw [b2, g.cal.w]
    exact d_sc b4 d
  · cases h3
theorem sub_assign {o i : Expr} {pos : Pos} {env : PySem.Env} (h : noSlice i = true) : ∀ v, assign (.Subscript o i pos) env v = (do
      let ov ← holding [v] (eval o env)
      let iv ← holding [v, ov] (eval i env)
      standAt pos
      holding [v, ov, iv] (setItem ov iv v)
      release [v, ov, iv] []) := fun v => by
  cases i <;> first | rfl | cases h
theorem set2_ok (g : Gd G T P cf C X) {a b o i p j : IE} {tg value : Expr} {pos : Pos} (h : okSet2 G C a b o i p j tg value = true) :
    PS X (.Assign [tg] value pos) (tAsg (tTup (tCons (De T (evE P cf a)) (tCons (De T (evE P cf b)) tNil))) (gTup X.K 2 (gCons (gSub (De T (evE P cf o)) (De T (evE P cf i)) (rPut T)) (gCons (gSub (De T (evE P cf p)) (De T (evE P cf j)) (rPut T)) gNil)))) := by
  unfold okSet2 at h
  split at h
  case h_2 => cases h
  simp only [Bool.and_eq_true, decide_eq_true_eq] at h
  obtain ⟨⟨⟨⟨⟨⟨⟨⟨⟨h1, h2⟩, h3⟩, h4⟩, h5⟩, h6⟩, h7⟩, h8⟩, h9⟩, h10⟩ := h
  obtain ⟨s1, s2⟩ := star_cons (env := X.env) h1
  obtain ⟨s3, _⟩ := star_cons (env := X.env) s2
  refine ps_asg (pe_tup (pa_cons (sE a g h5).1 (pa_cons (sE b g h6).1 pa_nil s3) s1)) (pg_tup g.cal.calm (pgs_cons (pg_sub (sE o g h7).1 (sE i g h8).1 (s_put g.cal) (sub_assign h2)) (pgs_cons (pg_sub (sE p g h9).1 (sE j g h10).1 (s_put g.cal) (sub_assign h3)) pgs_nil rfl) rfl) rfl rfl) rfl (ssP_ok g h4) rfl
theorem okAug_ok {o : Op2} {p : Operator} (h : okAug o p = true) : (o = .add ∧ p = .Add) ∨ (o = .sub ∧ p = .Sub) ∨ (o = .mul ∧ p = .Mult) := by
  cases o <;> cases p <;> first | (cases h; done) | exact .inl ⟨rfl, rfl⟩ | exact .inr (.inl ⟨rfl, rfl⟩) | exact .inr (.inr ⟨rfl, rfl⟩)

mutual
theorem sS : ∀ (s : IS) {C : CC} {X : Cx} {st : Stmt}, Gd G T P cf C X → okS G s C st = true → PS X st (Ds T (exS P cf s))
  | .asg t e, C, X, st, g, h => by
    have h : (match (generalizing := false) st with
      | .Assign [tg] value _ => okAsg G C t e tg value || (match (generalizing := false) t, e with
        | .tp [i, j], .tup (.cons a (.cons b .nil)) => okPar G C i j a b tg value
        | .tp [i, j, l], .tup (.cons a (.cons b (.cons c .nil))) => okPar3 G C i j l a b c tg value
        | .nm i, e => okComp G C i e tg value
        | _, _ => false)
      | _ => false) = true := h
    split at h
    case h_2 => cases h
    rw [Bool.or_eq_true] at h
    rcases h with h | h
    · exact PS_imp (asg_ok g h) fun D σ H d => ds_asg (fun ρ h => rfl) d
    · split at h
      · rename_i i j a b _
        refine PS_imp (par_ok g h) fun D σ H d => ds_par (f := evE P cf a) (g := evE P cf b) (fun ρ h => ?_) d
        show ((((evE P cf a ρ h).bind fun v h => ((evE P cf b ρ h).bind fun v h => (Res.ok [] h).bind fun vs h => .ok (v :: vs) h).bind fun vs h => .ok (v :: vs) h).bind _ : Res Val).bind _ : Res (Flow × Env)) = _
        cases evE P cf a ρ h with
        | bad => rfl
        | ok v1 h1 =>
          simp only [Res.bind]
          cases evE P cf b ρ h1 <;> rfl
      · rename_i i j l a b c _
        refine PS_imp (par3_ok g h) fun D σ H d => ds_par3 (f := evE P cf a) (g := evE P cf b) (k := evE P cf c) (fun ρ h => ?_) d
        show ((((evE P cf a ρ h).bind fun v h => ((evE P cf b ρ h).bind fun v h => ((evE P cf c ρ h).bind fun v h => (Res.ok [] h).bind fun vs h => .ok (v :: vs) h).bind fun vs h => .ok (v :: vs) h).bind fun vs h => .ok (v :: vs) h).bind _ : Res Val).bind _ : Res (Flow × Env)) = _
        cases evE P cf a ρ h with
        | bad => rfl
        | ok v1 h1 =>
          simp only [Res.bind]
          cases evE P cf b ρ h1 with
          | bad => rfl
          | ok v2 h2 =>
            simp only [Res.bind]
            cases evE P cf c ρ h2 <;> rfl
      · exact PS_imp (comp_ok g h) fun D σ H d => ds_asg (K := X.K) (t := .nm _) (fun ρ h => rfl) d
      · cases h
  | .setIx o i e, C, X, st, g, h => by
    have h : (match (generalizing := false) st with
      | .Assign [.Subscript o' i' _] value _ => noSlice i' && okE G e C value && okE G o C o' && okE G i C i'
      | _ => false) = true := h
    split at h
    case h_2 => cases h
    simp only [Bool.and_eq_true] at h
    obtain ⟨⟨⟨h1, h2⟩, h3⟩, h4⟩ := h
    refine PS_imp (ps_asg (sE e g h2).1 (pg_sub (sE o g h3).1 (sE i g h4).1 (s_put g.cal) (sub_assign h1)) ?_ rfl rfl) fun D σ H d => ds_setIx (fun ρ h => rfl) d
    exact (show swapsWithSole [_] _ _ _ = swapsWith _ (some _) _ _ from rfl).trans ((swaps_eq g _ _ _).trans rfl)
  | .setIx2 a b o i p j, C, X, st, g, h => by
    have h : (match (generalizing := false) st with
      | .Assign [tg] value _ => okSet2 G C a b o i p j tg value
      | _ => false) = true := h
    split at h
    case h_2 => cases h
    exact PS_imp (set2_ok g h) fun D σ H d => ds_setIx2 g.cal.K (fun ρ h => rfl) d
  | .setFld o f e, C, X, st, g, h => by
    have h : (match (generalizing := false) st with
      | .Assign [.Attribute o' a _] value _ => decide (a = G.nm f) && okE G e C value && okE G o C o'
      | _ => false) = true := h
    split at h
    case h_2 => cases h
    simp only [Bool.and_eq_true, decide_eq_true_eq] at h
    obtain ⟨⟨h1, h2⟩, h3⟩ := h
    rw [g.nm] at h1
    subst h1
    exact PS_imp (ps_fld (sE o g h3).1 (sE e g h2).1 (by rw [swaps_eq g]; rfl)) fun D σ H d => ds_setFld (fun ρ h => rfl) g.ob g.fo d
  | .aug i o e, C, X, st, g, h => by
    have h : (match (generalizing := false) st with
      | .AugAssign (.Name x _) op value _ => okSto C x i && okAug o op && okE G e C value
      | _ => false) = true := h
    split at h
    case h_2 => cases h
    simp only [Bool.and_eq_true] at h
    obtain ⟨⟨h1, h2⟩, h3⟩ := h
    obtain ⟨x1, x2, x3⟩ := okSto_ok g h1
    exact PS_imp (ps_aug (by rw [g.N]; exact g.nd) x1 x2 (sE e g h3).1 (i_aug o _ (okAug_ok h2)) x3) fun D σ H d => ds_aug (fun ρ h => rfl) d
  | .expr e, C, X, st, g, h => by
    have h : (match (generalizing := false) st with
      | .Expr value _ => noComp value && okE G e C value
      | _ => false) = true := h
    split at h
    case h_2 => cases h
    rw [Bool.and_eq_true] at h
    exact PS_imp (ps_expr (sE e g h.2).1 (swaps_none h.1 _ _)) fun D σ H d => ds_drop (fun ρ h => rfl) d
  | .ret e, C, X, st, g, h => by
    have h : (match (generalizing := false) st with
      | .Return (some value) _ => okE G e C value
      | .Return none _ => (match (generalizing := false) e with
        | .con .non => true
        | _ => false)
      | _ => false) = true := h
    split at h
    · exact PS_imp (ps_ret (sE e g h).1) fun D σ H d => ds_ret (fun ρ h => rfl) d
    · split at h
      · exact PS_imp ps_retN fun D σ H d => ds_retN (fun ρ h => rfl) d
      · cases h
    · cases h
  | .cond c a b, C, X, st, g, h => by
    have h : (match (generalizing := false) st with
      | .If test body orelse _ => okE G c C test && okSs G a C body && okSs G b C orelse
      | _ => false) = true := h
    split at h
    case h_2 => cases h
    simp only [Bool.and_eq_true] at h
    exact PS_imp (ps_if (sE c g h.1.1).2 (sSs a g h.1.2) (sSs b g h.2)) fun D σ H d => ds_if (fun ρ h => rfl) d
  | .loop t it b, C, X, st, g, h => by
    have h : (match (generalizing := false) st with
      | .For tg iter body [] _ => okT C t tg && okI G it C tg iter && okSs G b C body
      | _ => false) = true := h
    split at h
    case h_2 => cases h
    simp only [Bool.and_eq_true] at h
    exact PS_imp (ps_for (by rw [g.xe]; exact PassesOwn.never) g.cal.calm (sI it g h.1.2).1 (okT_ok g h.1.1) (sSs b g h.2) ((sI it g h.1.2).2 _)) fun D σ H d => ds_for (fun ρ h => rfl) d
  | .whil c b, C, X, st, g, h => by
    have h : (match (generalizing := false) st with
      | .While test body [] _ => okE G c C test && okSs G b C body
      | _ => false) = true := h
    split at h
    case h_2 => cases h
    simp only [Bool.and_eq_true] at h
    exact PS_imp (ps_while (by rw [g.xe]; exact PassesOwn.never) (sE c g h.1).2 (sSs b g h.2)) fun D σ H d => ds_while (n := P.w) (fun ρ h => rfl) d
  | .pass, C, X, st, g, h => by
    have h : (match (generalizing := false) st with
      | .Pass _ => true
      | .Expr (.Constant (.str _) _ _) _ => true
      | _ => false) = true := h
    split at h
    · exact PS_imp ps_pass fun D σ H d => ds_nil (fun ρ h => rfl) d
    · exact PS_imp ps_doc fun D σ H d => ds_nil (fun ρ h => rfl) d
    · cases h
  | .brk, C, X, st, g, h => by
    cases st <;> first | (exact absurd h Bool.false_ne_true) | exact PS_imp ps_break fun D σ H d => ds_brk (fun ρ h => rfl) d
  | .cont, C, X, st, g, h => by
    cases st <;> first | (exact absurd h Bool.false_ne_true) | exact PS_imp ps_continue fun D σ H d => ds_cont (fun ρ h => rfl) d
  | .raise, C, X, st, g, h => PS_imp ps_never fun D σ H d => ds_never (fun ρ h => rfl) d
theorem sSs : ∀ (ss : ISs) {C : CC} {X : Cx} {sts : List Stmt}, Gd G T P cf C X → okSs G ss C sts = true → PSs X sts (Ds T (exSs P cf ss))
  | .nil, C, X, sts, g, h => by
    cases sts with
    | cons => exact absurd h Bool.false_ne_true
    | nil => exact PSs_imp pss_nil fun D σ H d => ds_nil (fun ρ h => rfl) d
  | .cons s ss, C, X, sts, g, h => by
    cases sts with
    | nil => exact absurd h Bool.false_ne_true
    | cons x xs =>
      have h : (okS G s C x && okSs G ss C xs) = true := h
      rw [Bool.and_eq_true] at h
      exact PSs_imp (pss_cons (sS s g h.1) (sSs ss g h.2)) fun D σ H d => ds_cons (fun ρ h => rfl) d
end
end
end Z

set_option maxRecDepth 100000
/-! Z22: every def of the text does what the small language says; calls to any depth. -/
namespace Z
open PySem PySem.Spec PyProof.Rows
open L2


/-- a def of the text and its telling -/
structure FnD (K : PySem.W.Frag) (G : Gt) (P : Pg) (a : Addr) (f : Nat) : Prop where
  ex : ∃ (x qual : Str) (st : Stmt) (fd : FuncData) (N ps : List Str) (d : FD), Fun K x qual st a fd ∧ P.fn f = some d ∧ FnScope N ps (defScope st) ∧ d.np = ps.length ∧ d.ns = N.length ∧
    okSs G d.body ⟨N, defScope st, none⟩ (defBody st) = true ∧ Binds K fd ps [] ∧ PySem.W.keepIn K (.ref a) = true ∧
    ∀ ks perm, G.kw.contains (f, ks, perm) = true → KwB K fd ps ks perm
/-- the whole text -/
structure LawT (K : PySem.W.Frag) (mg : Str → Option Value) (G : Gt) (T : Tb) (P : Pg) (adr : Nat → Addr) : Prop where
  TK : K = T.K
  nm : G.nm = T.nm
  fnD : ∀ f d, P.fn f = some d → FnD K G P (adr f) f
  fnN : ∀ x f, G.fn.lookup x = some f → mg x = some (.ref (adr f)) ∧ ∃ d, P.fn f = some d
  clN : ∀ x c, G.cls.lookup x = some c → ∃ C f d, mg x = some (.ref C) ∧ T.cl c = some C ∧ P.ini c = some f ∧ Mk K C (adr f) ∧ P.fn f = some d
  mtN : ∀ c C m f, T.cl c = some C → P.mt c m = some f → Meth K C (T.nm m) (adr f) ∧ ∃ d, P.fn f = some d
  ob : ∀ c C, T.cl c = some C → Cls K C
  fo : ∀ c C f, T.cl c = some C → P.fo c f = true → NoAttr K C (T.nm f)
  nb : ∀ x ∈ bnames, mg x = none
  gv : ∀ x v, G.gv.lookup x = some v → ∃ u V, mg x = some u ∧ RelV V u ∧ ∀ ι H, Rep T ι H v V

section
variable {prog : Program} {w : World} {K : PySem.W.Frag} {mg : Str → Option Value} {base : Heap} {G : Gt} {T : Tb} {P : Pg} {adr : Nat → Addr}
/-- the def at a number keeps its promise -/
structure FnV (prog : Program) (w : World) (K : PySem.W.Frag) (mg : Str → Option Value) (base : Heap) (G : Gt) (T : Tb) (cf : CF) (adr : Nat → Addr) (k f : Nat) : Prop where
  ex : ∃ fd ps, FnC prog w K mg base k (adr f) fd ps (rON T (cf f)) ∧ Binds K fd ps [] ∧ PySem.W.keepIn K (.ref (adr f)) = true ∧
    ∀ ks perm, G.kw.contains (f, ks, perm) = true → KwB K fd ps ks perm

theorem gd_of (L : LawT K mg G T P adr) (hw : w = T.w) {cf : CF} {k : Nat} (hv : ∀ f d, P.fn f = some d → FnV prog w K mg base G T cf adr k f) {X : Cx} {N : List Str} {sc : Scope}
    (e1 : X.prog = prog) (e2 : X.w = w) (e3 : X.K = K) (e4 : X.mg = mg) (e5 : X.base = base) (eN : X.N = N) (nd : N.Nodup) (es : X.env.scope = sc) (kd : sc.kind = .function) (calm : X.calm = true) (xe : X.xe = fun _ _ => False) (fn : ∀ x, X.fn x = true) (rm : Rm (k + 1) X.A) : Gd G T P cf ⟨N, sc, none⟩ X := by
  subst e1 e2 e3 e4 e5
  exact {
    cal := ⟨L.TK, hw, calm, by have := rm.room.un; omega, rm.gd⟩
    N := eN
    nd := nd
    sc := es
    kd := kd
    xe := xe
    st := fun x _ => fn x
    fn := fun x f e => by
      obtain ⟨h1, d, h2⟩ := L.fnN x f e
      obtain ⟨fd, ps, h3, h4, h5, h6⟩ := (hv f d h2).ex
      exact ⟨adr f, fd, k, ps, h1, h5, h3, rm.mono (Nat.le_succ _), h4, h6⟩
    cls := fun x c e => by
      obtain ⟨C, f, d, h1, h2, h3, h4, h5⟩ := L.clN x c e
      obtain ⟨fd, ps, h6, h7, h8, h9⟩ := (hv f d h5).ex
      exact ⟨C, f, adr f, fd, k, ps, h1, h2, h3, h4, h6, rm, h7⟩
    gv := fun x v e => ⟨L.gv x v e⟩
    mt := fun c C m f e1 e2 => by
      obtain ⟨h1, d, h2⟩ := L.mtN c C m f e1 e2
      obtain ⟨fd, ps, h6, h7, h8, h9⟩ := (hv f d h2).ex
      exact ⟨adr f, fd, ps, k, h1, h6, rm.mono (Nat.le_succ _), h7⟩
    ob := L.ob
    fo := L.fo
    nb := L.nb
    nm := L.nm }

theorem start_at {ι : List Addr} {H : Hp} {us : List Val} {Vs : List V} (r : Reps T ι H us Vs) (n : Nat) : Env' T ι H (us.map some ++ List.replicate n none) (Vs.map some ++ List.replicate n none) := by
  have hl := r.length
  refine ⟨by simp [hl], fun i v e => ?_⟩
  by_cases hi : i < us.length
  · rw [List.getElem?_append_left (by simpa using hi), List.getElem?_map] at e
    obtain ⟨x, ex, e2⟩ := Option.map_eq_some_iff.mp e
    cases e2
    obtain ⟨V, eV, rV⟩ := r.get ex
    refine ⟨V, ?_, rV⟩
    rw [List.getElem?_append_left (by rw [List.length_map, ← hl]; exact hi), List.getElem?_map, eV]
    rfl
  · rw [List.getElem?_append_right (by simpa using hi)] at e
    rw [List.getElem?_replicate] at e
    split at e <;> cases e

theorem all_fn (L : LawT K mg G T P adr) (hw : w = T.w) : ∀ d f fd, P.fn f = some fd → FnV prog w K mg base G T (callF P d) adr (2 * d) f
  | 0, f, fd, hf => by
    obtain ⟨x, qual, st, fdat, N, ps, d', h1, h2, h3, h4, h5, h6, h7, h8, h9⟩ := (L.fnD f fd hf).ex
    exact ⟨fdat, ps, ⟨fun vs H Q ⟨_, _, _, _, _, _, _, e, _⟩ => (nomatch e), fun A outer s H args us vs Q _ _ _ _ ⟨_, _, _, _, _, _, _, e, _⟩ => (nomatch e)⟩, h7, h8, h9⟩
  | d + 1, f, fd, hf => by
    obtain ⟨x, qual, st, fdat, N, ps, d', F, h2, S, np, ns, okb, bnd, kp, kw⟩ := (L.fnD f fd hf).ex
    rw [hf] at h2
    cases h2
    obtain ⟨oc, od, kV, doc, pm, an, cdv, ct, osl, rfl, lk, hcd⟩ := F.ex
    refine ⟨_, ps, ?_, bnd, kp, kw⟩
    have lenOf : ∀ vs H Q, rON T (callF P (d + 1) f) vs H Q → vs.length = ps.length := by
      rintro vs H Q ⟨ι, h, as, v, h', sim, ra, e, q⟩
      unfold callF at e
      rw [hf] at e
      dsimp only at e
      split at e
      · rename_i hl
        rw [← ra.length, hl, np]
      · cases e
    refine (fnC_of (k := 2 * d + 1) lk hcd S lenOf fun A outer s H vs Q rm hsp => ?_ : FnC prog w K mg base (2 * d + 1 + 1) _ _ _ _)
    have hlen := lenOf _ _ _ hsp
    obtain ⟨ι, h, as, v, h', sim, ra, e, q⟩ := hsp
    have gd : Gd G T P (callF P d) ⟨N, defScope st, none⟩ (cxOf L2.CX0 prog w K mg base N qual (defScope st) (adr f) cdv A outer s H L2.E0).nox :=
      gd_of L hw (fun f d' hf => all_fn L hw d f d' hf) rfl rfl rfl rfl rfl rfl S.nd rfl S.kind rfl rfl (fun _ => rfl) rm
    refine ⟨_, sSs fd.body gd okb, ?_⟩
    unfold callF at e
    rw [hf] at e
    dsimp only at e
    split at e
    case isFalse => cases e
    split at e
    case h_1 => cases e
    rename_i Lx us g en
    obtain ⟨s1, r1, nl, hv⟩ := enter_ok en sim ra
    split at e
    case h_2 => cases e
    rename_i rv g' er
    unfold runF at er
    -- the state at the body's start
    have hst : L2.start N vs = vs.map some ++ List.replicate (fd.ns - fd.np) none := by
      unfold L2.start
      rw [hlen, ns, np]
    have at0 : At T (subs ι Lx) (us.map some ++ List.replicate (fd.ns - fd.np) none) g (L2.start N vs) H := ⟨by rw [hst]; exact start_at r1 _, s1⟩
    cases eb : exSs P (callF P d) fd.body (us.map some ++ List.replicate (fd.ns - fd.np) none) g with
    | bad => rw [eb] at er; cases er
    | ok fr h2 =>
      rw [eb] at er
      obtain ⟨fl, ρ2⟩ := fr
      refine ⟨subs ι Lx, _, g, (fl, ρ2), h2, at0, eb, fun ι2 H2 σ2 x2 a2 => ?_⟩
      have fin : ∀ {V : V}, h2 = g' → Rep T ι2 H2 rv V → Q V H2 := fun {V} eg r => by
        subst eg
        obtain ⟨ι3, x3, s3, r3⟩ := leave_ok e sim nl hv x2 a2.sim r
        exact q ι3 H2 V x3 s3 r3
      cases fl with
      | nx => cases er; exact fin rfl .non
      | ret v2 => cases er; exact fun V r => fin rfl r
      | brk => cases er
      | cont => cases er
end
end Z

set_option maxRecDepth 100000
/-! Z23: the law's end. -/
namespace Z
open PySem PySem.Spec PyProof.Rows
open L2

section
variable {P : Program} {w : World} {K : PySem.W.Frag} {mg mb : Str → Option Value} {k : Nat} {fa a : Addr} {sp : Wn} {s₁ : Shared} {vs : List Value} {ns : List Int}
/-- the call at the top, from a heap H that knows at most the script -/
theorem call_core (KX : K.In s₁.heap) (hns : s₁.heap.Ns mainGlobals mg) (hb : s₁.heap.Ns builtinsNs mb) (hbb : ∀ x : Str, x ≠ "__name__" → mb x = bootBuiltins x) (hlim : s₁.heap.NoLimit) (hg : s₁.gens = #[])
    (ha : s₁.heap.get? a = some { cls := .type "list", data := .seq vs.toArray }) (rm : Rm k callerA) (F : ∀ base : Heap, K.In base → base.Ns mainGlobals mg → ∃ fd ps, FnC P w K mg base k fa fd ps sp ∧ Binds K fd ps [])
    {H : Hp} (hO : Only H) (hsp : sp [.ref a] H fun v _ => v = .bl true) (ok : HOk P w H s₁.heap) (one : ∀ b, H b ≠ none → b = a) (apart : H a ≠ none → K.lookup a = none) :
    codeAny (model P w) callerA (.call (.ref fa) ⟨[.ref a], []⟩) (fun r s' => r = .ok (.ret (.bool true)) ∧ OldK s₁.heap s'.heap ∧ s'.os = s₁.os ∧ AllBare s'.gens) s₁ := by
  have shows : ∀ {b : Addr} {o : Obj}, s₁.heap.get? b = some o → (H b ≠ none → False) → (hidT s₁.heap H).get? b = some o := fun {b o} e n => hidT_get e (Classical.byContradiction n)
  have nsT : ∀ {b : Addr} {m : Str → Option Value}, s₁.heap.Ns b m → (hidT s₁.heap H).Ns b m := fun {b m} h => by
    obtain ⟨o, es, ep, e, d, r⟩ := h
    refine ⟨o, es, ep, shows e fun q => ?_, d, r⟩
    obtain rfl := one b q
    rw [ha] at e
    cases e
    cases d
  have kT : K.In (hidT s₁.heap H) := fun b o e => shows (KX b o e) fun q => by
    obtain rfl := one b q
    rw [apart q] at e
    cases e
  have md : Mod K mg (hidT s₁.heap H) := by
    obtain ⟨mc, l1, l2⟩ := hlim
    exact ⟨kT, nsT hns, ⟨mb, nsT hb, hbb⟩, mc, nsT l1, l2⟩
  have e0 : Env0 P w K mg (hidT s₁.heap H) callerA [] s₁ H :=
    ⟨rfl, md, fun b o e => of_hidT e, Nat.le_of_eq (hidT_size _ _), trivial, fun b hb => absurd hb List.not_mem_nil, ok, .of_eq hg⟩
  obtain ⟨fd, ps, F1, bnd⟩ := F _ kT (nsT hns)
  have b1 := bnd s₁ [.ref a] KX (F1.len _ _ _ hsp)
  rw [List.append_nil] at b1
  refine codeAny_mono (F1.run callerA [] s₁ H ⟨[.ref a], []⟩ [.ref a] [.ref a] _ rm e0 b1 (.cons rfl .nil) hsp) fun r s' h => ?_
  cases r with
  | error e => exact h.elim
  | ok fl =>
    cases fl with
    | next => exact h.elim
    | brk => exact h.elim
    | cont => exact h.elim
    | ret u =>
      obtain ⟨v, H', os, bare, un, ok', rv, ev⟩ := h
      subst ev
      obtain rfl : u = Value.bool true := rv
      refine ⟨rfl, OldK.of_keep fun b o e => ?_, os, bare⟩
      rcases hO b with z | ⟨ob, xs, z⟩
      · exact un.keep b o e z (fun q => absurd q List.not_mem_nil) (fun q => absurd q List.not_mem_nil)
      · obtain ⟨e1, _⟩ := ok b _ z
        obtain ⟨e2, _⟩ := ok' b _ (un.frzs b ob _ z)
        rw [e] at e1
        cases e1
        exact e2
theorem call_law (KX : K.In s₁.heap) (hns : s₁.heap.Ns mainGlobals mg) (hb : s₁.heap.Ns builtinsNs mb) (hbb : ∀ x : Str, x ≠ "__name__" → mb x = bootBuiltins x) (hlim : s₁.heap.NoLimit) (hg : s₁.gens = #[])
    (ha : s₁.heap.get? a = some { cls := .type "list", data := .seq vs.toArray }) (hi : IntsAre vs ns) (hl : ns.length ≤ sizeLine) (rm : Rm k callerA) (F : ∀ base : Heap, K.In base → base.Ns mainGlobals mg → ∃ fd ps, FnC P w K mg base k fa fd ps sp ∧ Binds K fd ps [])
    (hsp : ∀ H : Hp, SqF K H a (ns.map V.int) → sp [.ref a] H fun v _ => v = .bl true) :
    codeAny (model P w) callerA (.call (.ref fa) ⟨[.ref a], []⟩) (fun r s' => r = .ok (.ret (.bool true)) ∧ OldK s₁.heap s'.heap ∧ s'.os = s₁.os ∧ AllBare s'.gens) s₁ := by
  have rv := vals_ints hi
  have le := hi.length
  cases q : K.lookup a with
  | some o =>
    have e := KX a o q
    rw [ha] at e
    cases e
    have sq : ∀ H', SqL K H' a (ns.map V.int) := fun H' => .inr ⟨_, vs.toArray, _, q, rfl, rfl, rfl, by rw [List.size_toArray, le]; exact hl, by simpa using rv⟩
    exact call_core KX hns hb hbb hlim hg ha rm F (H := fun _ => none) (fun _ => .inl rfl) (hsp _ (.inr sq)) (fun b u z => nomatch z) (fun b z => absurd rfl z) fun z => absurd rfl z
  | none =>
    obtain ⟨H, hH⟩ : ∃ H : Hp, H = fun b => if b = a then some (.frz { cls := .type "list", data := .seq vs.toArray } (.lst (ns.map V.int))) else none := ⟨_, rfl⟩
    have at_ : H a = some (.frz { cls := .type "list", data := .seq vs.toArray } (.lst (ns.map V.int))) := by rw [hH]; exact if_pos rfl
    have off : ∀ b, b ≠ a → H b = none := fun b n => by rw [hH]; exact if_neg n
    have one : ∀ b, H b ≠ none → b = a := fun b z => Classical.byContradiction fun n => z (off b n)
    refine call_core KX hns hb hbb hlim hg ha rm F (H := H) (fun b => ?_) (hsp _ (.inl ⟨_, at_⟩)) (fun b u z => ?_) one fun _ => q
    · by_cases n : b = a
      · subst n; exact .inr ⟨_, _, at_⟩
      · exact .inl (off b n)
    · obtain rfl := one b (by rw [z]; exact fun y => nomatch y)
      rw [at_] at z
      cases z
      exact ⟨ha, by rw [List.length_map]; exact hl, vs, _, rv, ha⟩
end

/-- the goal behind the head, from the whole text and the law's value: the law's def stands at number fL -/
theorem walkC {l : PySem.W.OpenLaw} {n dp : Nat} {q : Program} {loose : List Str} {XP : (Str → Option Value) → Heap → Prop} {YP : World → Heap → Prop} {d : DefRec} {K : Params → PySem.W.Frag} {G : Gt} {Pg' : Pg} {fL : Nat}
    (hn : l.most = some n) (hn2 : n ≤ sizeLine) (hdf : d.params.defaults = []) (hr : Rm (2 * dp) callerA)
    (hY : ∀ (w : World) (h : Heap), YP w h → (K w.params).In h)
    (F : ∀ (w : World) (mg : Str → Option Value) (fa : Addr) (h : Heap), (K w.params).In h → h.Ns mainGlobals mg → mg d.name = some (.ref fa) →
      ∃ adr T, T.w = w ∧ adr fL = fa ∧ LawT (K w.params) mg G T Pg' adr)
    (fd : FD) (hfd : Pg'.fn fL = some fd) (h1 : fd.np = 1)
    (truth : ∀ ns : List Int, ns.length ≤ n → callF Pg' dp fL [.lv (ns.map .int)] [] = .ok (.bl true) []) :
    PySem.W.WalkO q loose XP YP l.row.toRowW d [] (fun f vs => PySem.call f vs) := by
  refine Att.attach_call hn hdf fun w s₀ s₁ mg mb fa o pm cd doc a vs ns g Y ho hd hcd hmg hobj hints hlen hg => ?_
  have KX := hY w _ Y
  obtain ⟨adr, T, hT, rfl, L⟩ := F w mg fa _ KX g.T.g hmg
  refine call_law KX g.T.g g.T.b g.T.builtins g.T.nolimit hg hobj hints (Nat.le_trans hlen hn2) hr (sp := rON T (callF Pg' dp fL)) (fun base k1 n1 => ?_) fun H sq => ?_
  · obtain ⟨fd', ps, F1, b1, _, _⟩ := (all_fn (prog := l.prog) (base := base) L hT.symm dp fL fd hfd).ex
    exact ⟨fd', ps, F1, b1⟩
  · have em : Sim T [] [] H := ⟨List.nodup_nil, rfl, fun i a o e _ => by simp at e⟩
    refine ⟨[], [], [.lv (ns.map .int)], .bl true, [], em, .cons (.lv (L.TK ▸ sq) (reps_ints ns)) .nil, truth ns hlen, fun ι' H' V x s r => rep_bl r⟩
end Z

set_option maxRecDepth 100000
/-! Z24: tables by lists. -/
namespace Z
open PySem L2
def nmOf (l : List Str) (i : Nat) : Str := match l[i]? with
  | some x => x
  | none => ⟨#[1114112 + i]⟩
def oddStr (x : Str) : Bool := x.cps.toList.all fun c => decide (c < 1114112)
theorem nmOf_inj {l : List Str} (nd : l.Nodup) (ok : l.all oddStr = true) : ∀ i j, nmOf l i = nmOf l j → i = j := by
  have odd : ∀ {x : Str} {i : Nat}, x ∈ l → x = ⟨#[1114112 + i]⟩ → False := fun {x i} m e => by
    have h := List.all_eq_true.mp ok x m
    rw [e] at h
    have h2 := List.all_eq_true.mp (show ([1114112 + i] : List Nat).all (fun c => decide (c < 1114112)) = true from h) (1114112 + i) List.mem_cons_self
    have := of_decide_eq_true h2
    omega
  intro i j e
  unfold nmOf at e
  cases ei : l[i]? with
  | some x =>
    cases ej : l[j]? with
    | some y =>
      rw [ei, ej] at e
      have e : x = y := e
      subst e
      exact nodup_at nd ei ej
    | none =>
      rw [ei, ej] at e
      exact (odd (List.mem_of_getElem? ei) e).elim
  | none =>
    cases ej : l[j]? with
    | some y =>
      rw [ei, ej] at e
      exact (odd (List.mem_of_getElem? ej) e.symm).elim
    | none =>
      rw [ei, ej] at e
      have e : (⟨#[1114112 + i]⟩ : Str) = ⟨#[1114112 + j]⟩ := e
      have := congrArg (fun s : Str => s.cps.toList) e
      simp at this
      omega
end Z

set_option maxRecDepth 100000
/-! Z25: a law's tables, put together. -/
namespace Z
open PySem PySem.Spec PyProof.Rows
open L2
/-- p of all of a list, one after another -/
def AllL {α : Type} (p : α → Prop) : List α → Prop
  | [] => True
  | x :: xs => p x ∧ AllL p xs
theorem AllL.mem {α : Type} {p : α → Prop} : ∀ {l : List α} {x : α}, AllL p l → x ∈ l → p x
  | y :: ys, x, h, m => by
    rcases List.mem_cons.mp m with rfl | m
    · exact h.1
    · exact h.2.mem m
theorem lookup_mem {β : Type} : ∀ {l : List (Str × β)} {x : Str} {b : β}, l.lookup x = some b → (x, b) ∈ l
  | (y, c) :: r, x, b, h => by
    rw [List.lookup_cons] at h
    split at h
    · rename_i e
      cases h
      rw [eq_of_beq e]
      exact List.mem_cons_self
    · exact List.mem_cons_of_mem _ (lookup_mem h)
theorem lookupN_mem {β : Type} : ∀ {l : List (Nat × β)} {x : Nat} {b : β}, l.lookup x = some b → (x, b) ∈ l
  | (y, c) :: r, x, b, h => by
    rw [List.lookup_cons] at h
    split at h
    · rename_i e
      cases h
      rw [eq_of_beq e]
      exact List.mem_cons_self
    · exact List.mem_cons_of_mem _ (lookupN_mem h)
def kwN (G : Gt) (f : Nat) : List (List Str × List Nat) := (G.kw.filter fun e => e.1 == f).map (·.2)
theorem kwN_mem {G : Gt} {f : Nat} {ks : List Str} {perm : List Nat} (h : G.kw.contains (f, ks, perm) = true) : (ks, perm) ∈ kwN G f := by
  have m : (f, ks, perm) ∈ G.kw := by simpa using h
  exact List.mem_map.mpr ⟨_, List.mem_filter.mpr ⟨m, by simp⟩, rfl⟩
section
variable {K : PySem.W.Frag} {mg : Str → Option Value} {G : Gt} {T : Tb} {P : Pg} {adr : Nat → Addr} {a : Addr} {f : Nat} {x qual : Str} {st : Stmt} {fd : FuncData} {N ps : List Str} {d : FD}
theorem fnD_mk (F : Fun K x qual st a fd) (hP : P.fn f = some d) (S : FnScope N ps (defScope st)) (np : d.np = ps.length) (ns : d.ns = N.length) (okb : okSs G d.body ⟨N, defScope st, none⟩ (defBody st) = true) (b : Binds K fd ps [])
    (kw : AllL (fun e => KwB K fd ps e.1 e.2) (kwN G f)) : FnD K G P a f :=
  ⟨x, qual, st, fd, N, ps, d, F, hP, S, np, ns, okb, b, F.kp, fun ks perm h => kw.mem (kwN_mem h)⟩
/-- a call by keywords binds -/
theorem kwB_mk {ks : List Str} {perm : List Nat} (F : Fun K x qual st a fd)
    (h : ∀ (kV doc pm : Value) (an : Option Addr) (cdv ct : Value) (ws : List Value), ws.length = ks.length → bindArgs (PySem.W.fnOf x qual (defArgs st) (defBody st) (defScope st) .none kV doc pm an cdv ct) ⟨[], ks.zip ws⟩ = pure (ps.zip (perm.filterMap (ws[·]?)))) : KwB K fd ps ks perm := by
  obtain ⟨oc, od, kV, doc, pm, an, cdv, ct, osl, rfl, lk, hcd⟩ := F.ex
  exact ⟨fun s ws _ hl => .of_eq (h kV doc pm an cdv ct ws hl)⟩
theorem gv_int {i : Int} {t : Tok} (h : mg x = some (.int i t)) : ∃ u V, mg x = some u ∧ RelV V u ∧ ∀ ι H, Rep T ι H (.int i) V := ⟨_, .int i, h, ⟨t, rfl⟩, fun _ _ => .int i⟩
end
end Z

/-! M1: the powers of a figure come round: relations alone. -/
namespace Fig
/-- the closure -/
inductive Cl {α : Type} (r : α → α → Prop) : α → α → Prop
  | one {a b : α} : r a b → Cl r a b
  | refl (a : α) : Cl r a a
  | symm {a b : α} : Cl r a b → Cl r b a
  | trans {a b c : α} : Cl r a b → Cl r b c → Cl r a c
theorem Cl.mono {α : Type} {r s : α → α → Prop} (h : ∀ a b, r a b → s a b) : ∀ {a b : α}, Cl r a b → Cl s a b
  | _, _, .one q => .one (h _ _ q)
  | _, _, .refl a => .refl a
  | _, _, .symm q => .symm (Cl.mono h q)
  | _, _, .trans q p => .trans (Cl.mono h q) (Cl.mono h p)
theorem Cl.least {α : Type} {r s : α → α → Prop} (h : ∀ a b, r a b → s a b) (hr : ∀ a, s a a) (hs : ∀ a b, s a b → s b a) (ht : ∀ a b c, s a b → s b c → s a c) : ∀ {a b : α}, Cl r a b → s a b
  | _, _, .one q => h _ _ q
  | _, _, .refl a => hr a
  | _, _, .symm q => hs _ _ (Cl.least h hr hs ht q)
  | _, _, .trans q p => ht _ _ _ (Cl.least h hr hs ht q) (Cl.least h hr hs ht p)

/-- an equality of n + n points: top (inl), bottom (inr) -/
abbrev Pt (n : Nat) := Fin n ⊕ Fin n
abbrev Rl (α : Type) := α → α → Prop
/-- middle and bottom -/
inductive Mid {n : Nat} (p : Rl (Fin n)) (A : Rl (Pt n)) : Pt n → Pt n → Prop
  | up {i j : Fin n} : p i j → Mid p A (.inl i) (.inl j)
  | fig {x y : Pt n} : A x y → Mid p A x y
def Jm {n : Nat} (p : Rl (Fin n)) (A : Rl (Pt n)) : Pt n → Pt n → Prop := Cl (Mid p A)
/-- one upon the other: three rows -/
inductive Three {n : Nat} (E A : Rl (Pt n)) : (Fin n ⊕ Pt n) → (Fin n ⊕ Pt n) → Prop
  | tt {i j : Fin n} : E (.inl i) (.inl j) → Three E A (.inl i) (.inl j)
  | tm {i j : Fin n} : E (.inl i) (.inr j) → Three E A (.inl i) (.inr (.inl j))
  | mm {i j : Fin n} : E (.inr i) (.inr j) → Three E A (.inr (.inl i)) (.inr (.inl j))
  | fig {x y : Pt n} : A x y → Three E A (.inr x) (.inr y)
def out {n : Nat} : Pt n → Fin n ⊕ Pt n
  | .inl i => .inl i
  | .inr i => .inr (.inr i)
/-- E upon A -/
def up {n : Nat} (E A : Rl (Pt n)) : Rl (Pt n) := fun x y => Cl (Three E A) (out x) (out y)
structure Eqv {α : Type} (r : Rl α) : Prop where
  refl : ∀ a, r a a
  symm : ∀ {a b}, r a b → r b a
  trans : ∀ {a b c}, r a b → r b c → r a c
theorem Cl.eqv {α : Type} (r : Rl α) : Eqv (Cl r) := ⟨.refl, .symm, .trans⟩
def bot {n : Nat} (E : Rl (Pt n)) : Rl (Fin n) := fun i j => E (.inr i) (.inr j)

section
variable {n : Nat} {E A : Rl (Pt n)}
/-- what the three rows are, told by the middle and the bottom -/
def Big (E A : Rl (Pt n)) : (Fin n ⊕ Pt n) → (Fin n ⊕ Pt n) → Prop
  | .inr x, .inr y => Jm (bot E) A x y
  | .inl i, .inr y => ∃ m, E (.inl i) (.inr m) ∧ Jm (bot E) A (.inl m) y
  | .inr x, .inl j => ∃ m, E (.inl j) (.inr m) ∧ Jm (bot E) A (.inl m) x
  | .inl i, .inl j => E (.inl i) (.inl j) ∨ ∃ m m', E (.inl i) (.inr m) ∧ Jm (bot E) A (.inl m) (.inl m') ∧ E (.inl j) (.inr m')
theorem big_eqv (hE : Eqv E) : Eqv (Big E A) := by
  refine ⟨fun a => ?_, fun {a b} h => ?_, fun {a b c} h k => ?_⟩
  · cases a with
    | inl i => exact .inl (hE.refl _)
    | inr x => exact .refl _
  · cases a with
    | inl i =>
      cases b with
      | inl j =>
        rcases h with h | ⟨m, m', h1, h2, h3⟩
        · exact .inl (hE.symm h)
        · exact .inr ⟨m', m, h3, .symm h2, h1⟩
      | inr y => exact h
    | inr x =>
      cases b with
      | inl j => exact h
      | inr y => exact .symm h
  · -- top points of one class of E meet the same middle points
    have move : ∀ {i j : Fin n} {m : Fin n}, E (.inl i) (.inl j) → E (.inl j) (.inr m) → E (.inl i) (.inr m) := fun q r => hE.trans q r
    have meet : ∀ {i : Fin n} {m m' : Fin n}, E (.inl i) (.inr m) → E (.inl i) (.inr m') → Jm (bot E) A (.inl m) (.inl m') := fun q r => .one (.up (hE.trans (hE.symm q) r))
    cases a with
    | inl i =>
      cases b with
      | inl j =>
        cases c with
        | inl l =>
          rcases h with h | ⟨m, m', h1, h2, h3⟩
          · rcases k with k | ⟨p, p', k1, k2, k3⟩
            · exact .inl (hE.trans h k)
            · exact .inr ⟨p, p', move h k1, k2, k3⟩
          · rcases k with k | ⟨p, p', k1, k2, k3⟩
            · exact .inr ⟨m, m', h1, h2, move (hE.symm k) h3⟩
            · exact .inr ⟨m, p', h1, .trans h2 (.trans (meet h3 k1) k2), k3⟩
        | inr z =>
          obtain ⟨p, k1, k2⟩ := k
          rcases h with h | ⟨m, m', h1, h2, h3⟩
          · exact ⟨p, move h k1, k2⟩
          · exact ⟨m, h1, .trans h2 (.trans (meet h3 k1) k2)⟩
      | inr y =>
        obtain ⟨m, h1, h2⟩ := h
        cases c with
        | inl l =>
          obtain ⟨p, k1, k2⟩ := k
          exact .inr ⟨m, p, h1, .trans h2 (.symm k2), k1⟩
        | inr z => exact ⟨m, h1, .trans h2 k⟩
    | inr x =>
      cases b with
      | inl j =>
        obtain ⟨m, h1, h2⟩ := h
        cases c with
        | inl l =>
          rcases k with k | ⟨p, p', k1, k2, k3⟩
          · exact ⟨m, move (hE.symm k) h1, h2⟩
          · exact ⟨p', k3, .trans (.symm k2) (.trans (meet k1 h1) h2)⟩
        | inr z =>
          obtain ⟨p, k1, k2⟩ := k
          exact .trans (.symm h2) (.trans (meet h1 k1) k2)
      | inr y =>
        cases c with
        | inl l =>
          obtain ⟨p, k1, k2⟩ := k
          exact ⟨p, k1, .trans k2 (.symm h)⟩
        | inr z => exact .trans h k
theorem three_big (hE : Eqv E) : ∀ a b, Three E A a b → Big E A a b
  | _, _, .tt h => .inl h
  | _, _, .tm h => ⟨_, h, .refl _⟩
  | _, _, .mm h => .one (.up h)
  | _, _, .fig h => .one (.fig h)
theorem jm_three : ∀ {x y : Pt n}, Jm (bot E) A x y → Cl (Three E A) (.inr x) (.inr y)
  | _, _, .one (.up h) => .one (.mm h)
  | _, _, .one (.fig h) => .one (.fig h)
  | _, _, .refl a => .refl _
  | _, _, .symm q => .symm (jm_three q)
  | _, _, .trans q p => .trans (jm_three q) (jm_three p)
theorem big_three {a b : Fin n ⊕ Pt n} (h : Big E A a b) : Cl (Three E A) a b := by
  cases a with
  | inl i =>
    cases b with
    | inl j =>
      rcases h with h | ⟨m, m', h1, h2, h3⟩
      · exact .one (.tt h)
      · exact .trans (.one (.tm h1)) (.trans (jm_three h2) (.symm (.one (.tm h3))))
    | inr y =>
      obtain ⟨m, h1, h2⟩ := h
      exact .trans (.one (.tm h1)) (jm_three h2)
  | inr x =>
    cases b with
    | inl j =>
      obtain ⟨m, h1, h2⟩ := h
      exact .symm (.trans (.one (.tm h1)) (jm_three h2))
    | inr y => exact jm_three h
theorem up_big (hE : Eqv E) {x y : Pt n} : up E A x y ↔ Big E A (out x) (out y) :=
  ⟨fun h => Cl.least (three_big hE) (big_eqv hE).refl (fun _ _ => (big_eqv hE).symm) (fun _ _ _ => (big_eqv hE).trans) h, big_three⟩
theorem up_eqv (E A : Rl (Pt n)) : Eqv (up E A) := ⟨fun _ => .refl _, fun h => .symm h, fun h k => .trans h k⟩
end
end Fig

/-! M2: the powers of a figure come round: they repeat early. -/
namespace Fig
open Classical
section
variable {n : Nat}
def col : Pt n → Fin n
  | .inl i => i
  | .inr i => i
def E0 : Rl (Pt n) := fun x y => col x = col y
def Pw (A : Rl (Pt n)) : Nat → Rl (Pt n)
  | 0 => E0
  | k + 1 => up (Pw A k) A
theorem E0_eqv : Eqv (E0 : Rl (Pt n)) := ⟨fun _ => rfl, fun h => Eq.symm h, fun h k => Eq.trans h k⟩
theorem Pw_eqv (A : Rl (Pt n)) : ∀ k, Eqv (Pw A k)
  | 0 => E0_eqv
  | k + 1 => up_eqv _ _
variable {A : Rl (Pt n)}
theorem pw_bb (k : Nat) {i j : Fin n} : Pw A (k + 1) (.inr i) (.inr j) ↔ Jm (bot (Pw A k)) A (.inr i) (.inr j) := up_big (Pw_eqv A k)
theorem pw_tb (k : Nat) {t b : Fin n} : Pw A (k + 1) (.inl t) (.inr b) ↔ ∃ m, Pw A k (.inl t) (.inr m) ∧ Jm (bot (Pw A k)) A (.inl m) (.inr b) := up_big (Pw_eqv A k)
theorem pw_tt (k : Nat) {t u : Fin n} : Pw A (k + 1) (.inl t) (.inl u) ↔ Pw A k (.inl t) (.inl u) ∨ ∃ m m', Pw A k (.inl t) (.inr m) ∧ Jm (bot (Pw A k)) A (.inl m) (.inl m') ∧ Pw A k (.inl u) (.inr m') := up_big (Pw_eqv A k)
theorem Jm.mono {p q : Rl (Fin n)} (h : ∀ i j, p i j → q i j) {x y : Pt n} (k : Jm p A x y) : Jm q A x y := Cl.mono (fun a b r => by
  cases r with
  | up e => exact .up (h _ _ e)
  | fig e => exact .fig e) k
theorem bot_grow : ∀ k (i j : Fin n), bot (Pw A k) i j → bot (Pw A (k + 1)) i j
  | 0, i, j, h => by
    have : i = j := h
    subst this
    exact (Pw_eqv A 1).refl _
  | k + 1, i, j, h => (pw_bb (k + 1)).mpr (Jm.mono (bot_grow k) ((pw_bb k).mp h))
theorem bot_next {k : Nat} (h : ∀ i j, bot (Pw A k) i j ↔ bot (Pw A (k + 1)) i j) : ∀ i j, bot (Pw A (k + 1)) i j ↔ bot (Pw A (k + 2)) i j := fun i j =>
  (pw_bb k).trans (Iff.trans ⟨Jm.mono fun a b => (h a b).mp, Jm.mono fun a b => (h a b).mpr⟩ (pw_bb (k + 1)).symm)
theorem bot_all {k : Nat} (h : ∀ i j, bot (Pw A k) i j ↔ bot (Pw A (k + 1)) i j) : ∀ m i j, bot (Pw A k) i j ↔ bot (Pw A (k + m)) i j
  | 0, _, _ => Iff.rfl
  | m + 1, i, j => by
    have st : ∀ m, ∀ i j, bot (Pw A (k + m)) i j ↔ bot (Pw A (k + m + 1)) i j := fun m => by
      induction m with
      | zero => exact h
      | succ m ih => exact bot_next ih
    exact (bot_all h m i j).trans (st m i j)

/-! counting pairs -/
def prs (n : Nat) : List (Fin n × Fin n) := (List.finRange n).flatMap fun i => (List.finRange n).map fun j => (i, j)
theorem prs_mem (x : Fin n × Fin n) : x ∈ prs n := List.mem_flatMap.mpr ⟨x.1, List.mem_finRange _, List.mem_map.mpr ⟨x.2, List.mem_finRange _, rfl⟩⟩
theorem flat_len {α β : Type} (f : α → List β) (c : Nat) : ∀ l : List α, (∀ x ∈ l, (f x).length = c) → (l.flatMap f).length = l.length * c
  | [], _ => by simp
  | x :: xs, h => by
    rw [List.flatMap_cons, List.length_append, h x List.mem_cons_self, flat_len f c xs fun y m => h y (List.mem_cons_of_mem _ m), List.length_cons, Nat.add_mul, Nat.one_mul, Nat.add_comm]
theorem prs_len : (prs n).length = n * n := by
  have := flat_len (fun i : Fin n => (List.finRange n).map fun j => (i, j)) n (List.finRange n) fun _ _ => by rw [List.length_map, List.length_finRange]
  rw [List.length_finRange] at this
  exact this
theorem count_le {α : Type} {p q : α → Bool} (h : ∀ x, p x = true → q x = true) : ∀ l : List α, l.countP p ≤ l.countP q
  | [] => Nat.le_refl _
  | x :: xs => by
    have ih := count_le h xs
    rw [List.countP_cons, List.countP_cons]
    cases hp : p x with
    | true => rw [h x hp]; omega
    | false => cases q x <;> simp <;> omega
theorem count_lt {α : Type} {p q : α → Bool} (h : ∀ x, p x = true → q x = true) : ∀ {l : List α} {x : α}, x ∈ l → p x = false → q x = true → l.countP p < l.countP q
  | y :: ys, x, m, hp, hq => by
    rw [List.countP_cons, List.countP_cons]
    rcases List.mem_cons.mp m with rfl | m
    · have := count_le h ys
      rw [hp, hq]; simp; omega
    · have ih := count_lt h m hp hq
      cases hy : p y with
      | true => rw [h y hy]; omega
      | false => cases q y <;> simp <;> omega
noncomputable def cnt (p : Rl (Fin n)) : Nat := (prs n).countP fun x => decide (p x.1 x.2)
theorem cnt_le (p : Rl (Fin n)) : cnt p ≤ n * n := by
  have := List.countP_le_length (p := fun x : Fin n × Fin n => decide (p x.1 x.2)) (l := prs n)
  rw [prs_len] at this
  exact this
theorem cnt_lt {p q : Rl (Fin n)} (h : ∀ i j, p i j → q i j) (ne : ¬ ∀ i j, p i j ↔ q i j) : cnt p < cnt q := by
  have : ∃ i j, ¬ p i j ∧ q i j := by
    apply Classical.byContradiction
    intro z
    refine ne fun i j => ⟨h i j, fun hq => Classical.byContradiction fun hp => z ⟨i, j, hp, hq⟩⟩
  obtain ⟨i, j, hp, hq⟩ := this
  exact count_lt (fun x e => decide_eq_true (h _ _ (of_decide_eq_true e))) (prs_mem (i, j)) (decide_eq_false hp) (decide_eq_true hq)
/-- the bottom is fixed early -/
theorem bot_fix (A : Rl (Pt n)) : ∃ k, k ≤ n * n ∧ ∀ i j, bot (Pw A k) i j ↔ bot (Pw A (k + 1)) i j := by
  apply Classical.byContradiction
  intro z
  have grow : ∀ k, k ≤ n * n + 1 → k ≤ cnt (bot (Pw A k)) := fun k => by
    induction k with
    | zero => exact fun _ => Nat.zero_le _
    | succ k ih =>
      intro hk
      have lt := cnt_lt (bot_grow (A := A) k) fun e => z ⟨k, by omega, e⟩
      have := ih (by omega)
      omega
  have := grow (n * n + 1) (Nat.le_refl _)
  have := cnt_le (bot (Pw A (n * n + 1)))
  omega

/-! the top's way -/
noncomputable def first (p : Fin n → Prop) : Option (Fin n) := (List.finRange n).find? fun m => decide (p m)
theorem first_eq {p q : Fin n → Prop} (h : ∀ m, p m ↔ q m) : first p = first q := by
  have : p = q := funext fun m => propext (h m)
  rw [this]
theorem first_some {p : Fin n → Prop} {m : Fin n} (h : first p = some m) : p m := of_decide_eq_true (List.find?_some (p := fun m => decide (p m)) h)
theorem first_none {p : Fin n → Prop} (h : first p = none) (m : Fin n) : ¬ p m := fun hp => by
  have := List.find?_eq_none.mp h m (List.mem_finRange _)
  exact this (decide_eq_true hp)
theorem first_is {p : Fin n → Prop} {m : Fin n} (hp : p m) : ∃ m0, first p = some m0 := by
  cases e : first p with
  | none => exact (first_none e m hp).elim
  | some m0 => exact ⟨m0, rfl⟩
/-- where the top point t stands -/
noncomputable def pl (A : Rl (Pt n)) (k : Nat) (t : Fin n) : Option (Fin n) := first fun m => Pw A k (.inl t) (.inr m)
noncomputable def tau (J : Pt n → Pt n → Prop) : Option (Fin n) → Option (Fin n)
  | none => none
  | some m => first fun b => J (.inl m) (.inr b)
def iter {α : Type} (f : α → α) : Nat → α → α
  | 0, x => x
  | k + 1, x => f (iter f k x)
theorem iter_add {α : Type} (f : α → α) (j : Nat) : ∀ (i : Nat) (x : α), iter f (i + j) x = iter f i (iter f j x)
  | 0, x => by rw [Nat.zero_add]; rfl
  | i + 1, x => by
    rw [Nat.succ_add]
    show f (iter f (i + j) x) = f (iter f i (iter f j x))
    rw [iter_add f j i x]
theorem pl_next {k : Nat} {J : Pt n → Pt n → Prop} (hJ : ∀ x y, Jm (bot (Pw A k)) A x y ↔ J x y) (t : Fin n) : pl A (k + 1) t = tau J (pl A k t) := by
  have hE := Pw_eqv A k
  cases e : pl A k t with
  | none =>
    show first _ = none
    cases e2 : first fun b => Pw A (k + 1) (.inl t) (.inr b) with
    | none => rfl
    | some b =>
      obtain ⟨m, h1, _⟩ := (pw_tb k).mp (first_some e2)
      exact (first_none e m h1).elim
  | some m0 =>
    refine first_eq fun b => (pw_tb k).trans ⟨fun ⟨m, h1, h2⟩ => (hJ _ _).mp (.trans (.one (.up (hE.trans (hE.symm (first_some e)) h1))) h2), fun h => ⟨m0, first_some e, (hJ _ _).mpr h⟩⟩
theorem Jm.iff {p q : Rl (Fin n)} (h : ∀ i j, p i j ↔ q i j) (x y : Pt n) : Jm p A x y ↔ Jm q A x y := ⟨Jm.mono fun i j => (h i j).mp, Jm.mono fun i j => (h i j).mpr⟩
/-- they come round -/
theorem round (A : Rl (Pt n)) {p : Nat} (hp : 1 ≤ p) (hper : ∀ f : Option (Fin n) → Option (Fin n), f none = none → ∃ q, 1 ≤ q ∧ q ≤ p ∧ ∀ x, iter f (5 + q) x = iter f 5 x) :
    ∃ K q, 1 ≤ q ∧ q ≤ p ∧ K ≤ n * n + 5 ∧ ∀ x y, Pw A (K + q) x y ↔ Pw A K x y := by
  obtain ⟨k0, hk0, fix⟩ := bot_fix A
  have all := bot_all fix
  obtain ⟨J, eJ⟩ : ∃ J, J = Jm (bot (Pw A k0)) A := ⟨_, rfl⟩
  have hJ : ∀ m x y, Jm (bot (Pw A (k0 + m))) A x y ↔ J x y := fun m x y => by
    rw [eJ]
    exact Jm.iff (fun i j => (all m i j).symm) x y
  have J_eqv : Eqv J := by rw [eJ]; exact Cl.eqv _
  obtain ⟨q, q1, q2, per⟩ := hper (tau J) rfl
  have it : ∀ m t, pl A (k0 + m) t = iter (tau J) m (pl A k0 t) := fun m t => by
    induction m with
    | zero => rfl
    | succ m ih =>
      show pl A (k0 + m + 1) t = tau J (iter (tau J) m (pl A k0 t))
      rw [pl_next (hJ m), ih]
  have back : ∀ m t, pl A (k0 + 5 + m + q) t = pl A (k0 + 5 + m) t := fun m t => by
    have e1 : k0 + 5 + m + q = k0 + (m + (5 + q)) := by omega
    have e2 : k0 + 5 + m = k0 + (m + 5) := by omega
    rw [e1, e2, it, it, iter_add (tau J) (5 + q) m, iter_add (tau J) 5 m, per]
  -- the top alone grows, then stays
  have tt : ∀ m {t u : Fin n}, Pw A (k0 + 5 + m + 1) (.inl t) (.inl u) → Pw A (k0 + 5 + m) (.inl t) (.inl u) := fun m {t u} h => by
    have hE := Pw_eqv A (k0 + 5 + m)
    rcases (pw_tt _).mp h with h | ⟨a, b, h1, h2, h3⟩
    · exact h
    · obtain ⟨a0, ea⟩ : ∃ a0, pl A (k0 + 5 + m) t = some a0 := first_is h1
      obtain ⟨b0, eb⟩ : ∃ b0, pl A (k0 + 5 + m) u = some b0 := first_is h3
      have ha := first_some ea
      have hb := first_some eb
      have e5 : k0 + 5 + m = k0 + (5 + m) := by omega
      have hJm : ∀ x y, Jm (bot (Pw A (k0 + 5 + m))) A x y ↔ J x y := by rw [e5]; exact hJ (5 + m)
      have jab : J (.inl a0) (.inl b0) := (hJm _ _).mp (.trans (.one (.up (hE.trans (hE.symm ha) h1))) (.trans h2 (.symm (.one (.up (hE.trans (hE.symm hb) h3))))))
      have same : tau J (some a0) = tau J (some b0) := first_eq fun z => ⟨fun w => J_eqv.trans (J_eqv.symm jab) w, fun w => J_eqv.trans jab w⟩
      have n1 : pl A (k0 + 5 + m + 1) t = pl A (k0 + 5 + m + 1) u := by rw [pl_next hJm, pl_next hJm, ea, eb, same]
      have go : ∀ i, pl A (k0 + 5 + m + 1 + i) t = pl A (k0 + 5 + m + 1 + i) u := fun i => by
        induction i with
        | zero => exact n1
        | succ i ih =>
          have e6 : k0 + 5 + m + 1 + i = k0 + (5 + m + 1 + i) := by omega
          show pl A (k0 + 5 + m + 1 + i + 1) t = pl A (k0 + 5 + m + 1 + i + 1) u
          rw [pl_next (J := J) (by rw [e6]; exact hJ _), pl_next (J := J) (by rw [e6]; exact hJ _), ih]
      have e7 : k0 + 5 + m + 1 + (q - 1) = k0 + 5 + m + q := by omega
      have fin := go (q - 1)
      rw [e7, back, back, ea, eb] at fin
      cases fin
      exact hE.trans ha (hE.symm hb)
  have tt2 : ∀ m {t u : Fin n}, Pw A (k0 + 5 + m) (.inl t) (.inl u) ↔ Pw A (k0 + 5) (.inl t) (.inl u) := fun m {t u} => by
    induction m with
    | zero => exact Iff.rfl
    | succ m ih => exact (Iff.intro (tt m) fun h => (pw_tt _).mpr (.inl h)).trans ih
  have tb : ∀ m {t b : Fin n}, Pw A (k0 + m) (.inl t) (.inr b) ↔ ∃ a, pl A (k0 + m) t = some a ∧ bot (Pw A k0) a b := fun m {t b} => by
    have hE := Pw_eqv A (k0 + m)
    constructor
    · intro h
      obtain ⟨a, ea⟩ : ∃ a, pl A (k0 + m) t = some a := first_is h
      exact ⟨a, ea, (all m a b).mpr (hE.trans (hE.symm (first_some ea)) h)⟩
    · rintro ⟨a, ea, h⟩
      exact hE.trans (first_some ea) ((all m a b).mp h)
  refine ⟨k0 + 5, q, q1, q2, by omega, fun x y => ?_⟩
  have hE := Pw_eqv A (k0 + 5)
  have hE' := Pw_eqv A (k0 + 5 + q)
  have tbq : ∀ {t b : Fin n}, Pw A (k0 + 5 + q) (.inl t) (.inr b) ↔ Pw A (k0 + 5) (.inl t) (.inr b) := fun {t b} => by
    have e1 : k0 + 5 + q = k0 + (5 + q) := by omega
    have z := back 0 t
    rw [e1] at z ⊢
    rw [tb (5 + q), tb 5]
    have z : pl A (k0 + (5 + q)) t = pl A (k0 + 5) t := by
      have := back 0 t
      rw [show k0 + 5 + 0 + q = k0 + (5 + q) by omega] at this
      exact this
    rw [z]
  cases x with
  | inl t =>
    cases y with
    | inl u => exact tt2 q
    | inr b => exact tbq
  | inr b =>
    cases y with
    | inl t => exact ⟨fun h => hE.symm (tbq.mp (hE'.symm h)), fun h => hE'.symm (tbq.mpr (hE.symm h))⟩
    | inr c =>
      have e1 : k0 + 5 + q = k0 + (5 + q) := by omega
      rw [e1]
      exact (all (5 + q) b c).symm.trans (all 5 b c)
end
end Fig

/-! M3: a map of at most five things and nothing comes round in at most six, after five. -/
namespace Fig
def stp (l : List Nat) (x : Nat) : Nat := if x < 5 then l.getD x 5 else 5
def app (l w : List Nat) : List Nat := w.map (stp l)
def apps (l : List Nat) : Nat → List Nat
  | 0 => [0, 1, 2, 3, 4]
  | k + 1 => app l (apps l k)
def seek (l v : List Nat) : Nat → List Nat → Bool
  | 0, _ => false
  | k + 1, w => let u := app l w; u == v || seek l v k u
def chk (l : List Nat) : Bool := let v := apps l 5; seek l v 6 v
def r6 : List Nat := [0, 1, 2, 3, 4, 5]
set_option maxRecDepth 100000 in
theorem chk_all : (r6.all fun a => r6.all fun b => r6.all fun c => r6.all fun d => r6.all fun e => chk [a, b, c, d, e]) = true := by decide +kernel
theorem seek_ok {l v : List Nat} : ∀ {k : Nat} {w : List Nat} {i : Nat}, w = apps l i → seek l v k w = true → ∃ q, 1 ≤ q ∧ q ≤ k ∧ apps l (i + q) = v
  | 0, _, _, _, h => by cases h
  | k + 1, w, i, e, h => by
    have h : (app l w == v || seek l v k (app l w)) = true := h
    rw [Bool.or_eq_true] at h
    rcases h with h | h
    · exact ⟨1, Nat.le_refl _, by omega, by show app l (apps l i) = v; rw [← e]; exact eq_of_beq h⟩
    · obtain ⟨q, h1, h2, h3⟩ := seek_ok (i := i + 1) (by rw [e]; rfl) h
      exact ⟨q + 1, by omega, by omega, by rw [← h3]; congr 1; omega⟩
section
variable {n : Nat}
def code : Option (Fin n) → Nat
  | none => 5
  | some i => i.val
theorem code_inj (hn : n ≤ 5) {a b : Option (Fin n)} (e : code a = code b) : a = b := by
  cases a with
  | none => cases b with
    | none => rfl
    | some j => have := j.isLt; have e : 5 = j.val := e; omega
  | some i => cases b with
    | none => have := i.isLt; have e : i.val = 5 := e; omega
    | some j => exact congrArg some (Fin.ext e)
theorem code_le (hn : n ≤ 5) (a : Option (Fin n)) : code a ≤ 5 := by
  cases a with
  | none => exact Nat.le_refl _
  | some i => have := i.isLt; show i.val ≤ 5; omega
def at_ (f : Option (Fin n) → Option (Fin n)) (i : Nat) : Nat := if h : i < n then code (f (some ⟨i, h⟩)) else 5
def lst (f : Option (Fin n) → Option (Fin n)) : List Nat := [at_ f 0, at_ f 1, at_ f 2, at_ f 3, at_ f 4]
theorem lst_get (f : Option (Fin n) → Option (Fin n)) {i : Nat} (hi : i < 5) : (lst f).getD i 5 = at_ f i := by
  match i, hi with
  | 0, _ => rfl
  | 1, _ => rfl
  | 2, _ => rfl
  | 3, _ => rfl
  | 4, _ => rfl
theorem stp_code (hn : n ≤ 5) {f : Option (Fin n) → Option (Fin n)} (h0 : f none = none) (o : Option (Fin n)) : stp (lst f) (code o) = code (f o) := by
  cases o with
  | none =>
    rw [h0]
    show (if 5 < 5 then _ else 5) = 5
    rfl
  | some i =>
    have hi : i.val < 5 := Nat.lt_of_lt_of_le i.isLt hn
    show (if i.val < 5 then (lst f).getD i.val 5 else 5) = _
    rw [if_pos hi, lst_get f hi]
    unfold at_
    rw [dif_pos i.isLt]
theorem apps_get (hn : n ≤ 5) {f : Option (Fin n) → Option (Fin n)} (h0 : f none = none) (i : Fin n) : ∀ k, (apps (lst f) k)[i.val]? = some (code (iter f k (some i)))
  | 0 => by
    show ([0, 1, 2, 3, 4] : List Nat)[i.val]? = some i.val
    obtain ⟨i, hi⟩ := i
    have : i < 5 := by omega
    match i, this with
    | 0, _ => rfl
    | 1, _ => rfl
    | 2, _ => rfl
    | 3, _ => rfl
    | 4, _ => rfl
  | k + 1 => by
    show ((apps (lst f) k).map (stp (lst f)))[i.val]? = _
    rw [List.getElem?_map, apps_get hn h0 i k]
    show some (stp _ (code _)) = _
    rw [stp_code hn h0]
    rfl
theorem iter_none {f : Option (Fin n) → Option (Fin n)} (h0 : f none = none) : ∀ k, iter f k none = none
  | 0 => rfl
  | k + 1 => by show f (iter f k none) = none; rw [iter_none h0 k, h0]
theorem mem6 {a : Nat} (h : a ≤ 5) : a ∈ r6 := by
  match a, h with
  | 0, _ => decide
  | 1, _ => decide
  | 2, _ => decide
  | 3, _ => decide
  | 4, _ => decide
  | 5, _ => decide
theorem at_le (hn : n ≤ 5) (f : Option (Fin n) → Option (Fin n)) (i : Nat) : at_ f i ≤ 5 := by
  unfold at_
  split
  · exact code_le hn _
  · exact Nat.le_refl _
theorem per6 (hn : n ≤ 5) (f : Option (Fin n) → Option (Fin n)) (h0 : f none = none) : ∃ q, 1 ≤ q ∧ q ≤ 6 ∧ ∀ x, iter f (5 + q) x = iter f 5 x := by
  have h := chk_all
  have h := List.all_eq_true.mp h _ (mem6 (at_le hn f 0))
  have h := List.all_eq_true.mp h _ (mem6 (at_le hn f 1))
  have h := List.all_eq_true.mp h _ (mem6 (at_le hn f 2))
  have h := List.all_eq_true.mp h _ (mem6 (at_le hn f 3))
  have h := List.all_eq_true.mp h _ (mem6 (at_le hn f 4))
  have h : seek (lst f) (apps (lst f) 5) 6 (apps (lst f) 5) = true := h
  obtain ⟨q, q1, q2, e⟩ := seek_ok (i := 5) rfl h
  refine ⟨q, q1, q2, fun x => ?_⟩
  cases x with
  | none => rw [iter_none h0, iter_none h0]
  | some i =>
    have e1 := apps_get hn h0 i (5 + q)
    have e2 := apps_get hn h0 i 5
    rw [e, e2] at e1
    exact (code_inj hn (Option.some.inj e1)).symm
/-- the powers of a figure of at most five cords come round within 36 turns -/
theorem rounds (hn : n ≤ 5) (A : Rl (Pt n)) : ∃ K q, 1 ≤ q ∧ q ≤ 6 ∧ K ≤ 30 ∧ ∀ x y, Pw A (K + q) x y ↔ Pw A K x y := by
  obtain ⟨K, q, h1, h2, h3, h4⟩ := round A (p := 6) (by omega) (per6 hn)
  refine ⟨K, q, h1, h2, ?_, h4⟩
  have : n * n ≤ 5 * 5 := Nat.mul_le_mul hn hn
  omega
end
end Fig

/-! M4: figures as lists: naming, putting upon. -/
namespace Fig
def namG (seen : List Int) : List Int → List Int
  | [] => []
  | x :: xs => if x ∈ seen then (seen.idxOf x : Int) :: namG seen xs else (seen.length : Int) :: namG (seen ++ [x]) xs
def nam (l : List Int) : List Int := namG [] l
theorem namG_len : ∀ (l seen : List Int), (namG seen l).length = l.length
  | [], _ => rfl
  | x :: xs, seen => by
    unfold namG
    split
    · rw [List.length_cons, namG_len xs, List.length_cons]
    · rw [List.length_cons, namG_len xs, List.length_cons]
theorem nam_len (l : List Int) : (nam l).length = l.length := namG_len l []
/-- the same places are equal -/
structure KEq (l l' : List Int) : Prop where
  len : l.length = l'.length
  eq : ∀ i j : Nat, l[i]? = l[j]? ↔ l'[i]? = l'[j]?
theorem KEq.refl (l : List Int) : KEq l l := ⟨rfl, fun _ _ => Iff.rfl⟩
theorem KEq.symm {l l' : List Int} (h : KEq l l') : KEq l' l := ⟨h.len.symm, fun i j => (h.eq i j).symm⟩
theorem KEq.trans {l l' m : List Int} (h : KEq l l') (k : KEq l' m) : KEq l m := ⟨h.len.trans k.len, fun i j => (h.eq i j).trans (k.eq i j)⟩
theorem idx_at {l : List Int} {x : Int} (h : x ∈ l) : l[l.idxOf x]? = some x := by
  have := List.idxOf_lt_length_iff.mpr h
  rw [List.getElem?_eq_getElem this, List.getElem_idxOf]
theorem nodup_get {l : List Int} (nd : l.Nodup) {i j : Nat} (hi : i < l.length) (e : l[i]? = l[j]?) : i = j := by
  rw [List.getElem?_eq_getElem hi] at e
  have hj := (List.getElem?_eq_some_iff.mp e.symm).1
  rw [List.getElem?_eq_getElem hj] at e
  exact (List.getElem_inj (h₀ := hi) (h₁ := hj) nd).mp (Option.some.inj e)
theorem idx_is {l : List Int} (nd : l.Nodup) {i : Nat} {x : Int} (e : l[i]? = some x) : l.idxOf x = i := by
  have m := List.mem_of_getElem? e
  have := idx_at m
  exact nodup_get nd (List.idxOf_lt_length_iff.mpr m) (this.trans e.symm)
theorem namG_congr : ∀ (l l' seen seen' : List Int), seen.Nodup → seen'.Nodup → seen.length = seen'.length → KEq (seen ++ l) (seen' ++ l') → namG seen l = namG seen' l'
  | [], [], _, _, _, _, _, _ => rfl
  | [], _ :: _, seen, seen', _, _, hl, k => by have := k.len; simp at this; omega
  | _ :: _, [], seen, seen', _, _, hl, k => by have := k.len; simp at this; omega
  | x :: xs, x' :: xs', seen, seen', nd, nd', hl, k => by
    have here : (seen ++ x :: xs)[seen.length]? = some x := by rw [List.getElem?_append_right (Nat.le_refl _), Nat.sub_self]; rfl
    have here' : (seen' ++ x' :: xs')[seen.length]? = some x' := by rw [hl, List.getElem?_append_right (Nat.le_refl _), Nat.sub_self]; rfl
    have low : ∀ {i : Nat}, i < seen.length → (seen ++ x :: xs)[i]? = seen[i]? ∧ (seen' ++ x' :: xs')[i]? = seen'[i]? := fun {i} hi =>
      ⟨List.getElem?_append_left hi, List.getElem?_append_left (hl ▸ hi)⟩
    have at_iff : ∀ i, i < seen.length → (seen[i]? = some x ↔ seen'[i]? = some x') := fun i hi => by
      have := k.eq i seen.length
      rw [here, here', (low hi).1, (low hi).2] at this
      exact this
    have mem_iff : x ∈ seen ↔ x' ∈ seen' := by
      constructor
      · intro m
        have hi := List.idxOf_lt_length_iff.mpr m
        exact List.mem_of_getElem? ((at_iff _ hi).mp (idx_at m))
      · intro m
        have hi : seen'.idxOf x' < seen.length := hl ▸ List.idxOf_lt_length_iff.mpr m
        exact List.mem_of_getElem? ((at_iff _ hi).mpr (idx_at m))
    unfold namG
    by_cases m : x ∈ seen
    · rw [if_pos m, if_pos (mem_iff.mp m)]
      have hi := List.idxOf_lt_length_iff.mpr m
      have e : seen'.idxOf x' = seen.idxOf x := idx_is nd' ((at_iff _ hi).mp (idx_at m))
      rw [e]
      congr 1
      refine namG_congr xs xs' seen seen' nd nd' hl ⟨by have := k.len; simp at this ⊢; omega, fun i j => ?_⟩
      -- places behind move by one
      have sh : ∀ (i : Nat) (s : List Int) (y : Int) (ys : List Int), (s ++ ys)[i]? = (s ++ y :: ys)[if i < s.length then i else i + 1]? := fun i s y ys => by
        by_cases h : i < s.length
        · rw [if_pos h, List.getElem?_append_left h, List.getElem?_append_left h]
        · rw [if_neg h, List.getElem?_append_right (by omega), List.getElem?_append_right (by omega)]
          rw [show i + 1 - s.length = (i - s.length) + 1 by omega]
          rfl
      rw [sh i seen x xs, sh j seen x xs, sh i seen' x' xs', sh j seen' x' xs', ← hl]
      exact k.eq _ _
    · rw [if_neg m, if_neg fun z => m (mem_iff.mpr z), hl]
      congr 1
      have nd1 : ∀ {s : List Int} {y : Int}, s.Nodup → y ∉ s → (s ++ [y]).Nodup := fun {s y} n z => by
        rw [List.nodup_append]
        exact ⟨n, by simp, fun a ha b hb => by rw [List.mem_singleton.mp hb]; rintro rfl; exact z ha⟩
      refine namG_congr xs xs' (seen ++ [x]) (seen' ++ [x']) (nd1 nd m) (nd1 nd' fun z => m (mem_iff.mpr z)) (by simp [hl]) ?_
      rw [List.append_assoc, List.append_assoc]
      exact k
theorem nam_congr {l l' : List Int} (k : KEq l l') : nam l = nam l' := namG_congr l l' [] [] List.nodup_nil List.nodup_nil rfl k
/-- all that has been seen in the end -/
def seenG (seen : List Int) : List Int → List Int
  | [] => seen
  | x :: xs => if x ∈ seen then seenG seen xs else seenG (seen ++ [x]) xs
theorem seenG_spec : ∀ (l seen : List Int), seen.Nodup → (seenG seen l).Nodup ∧ seen <+: seenG seen l ∧ ∀ (i : Nat) (x : Int), l[i]? = some x → x ∈ seenG seen l ∧ (namG seen l)[i]? = some ((seenG seen l).idxOf x : Int)
  | [], seen, nd => ⟨nd, List.prefix_rfl, fun i x e => by simp at e⟩
  | y :: ys, seen, nd => by
    unfold seenG namG
    by_cases m : y ∈ seen
    · rw [if_pos m, if_pos m]
      obtain ⟨h1, h2, h3⟩ := seenG_spec ys seen nd
      refine ⟨h1, h2, fun i x e => ?_⟩
      cases i with
      | zero =>
        have e : y = x := by simpa using e
        subst e
        refine ⟨h2.subset m, ?_⟩
        obtain ⟨t, ht⟩ := h2
        have : (seenG seen ys).idxOf y = seen.idxOf y := by
          refine idx_is h1 ?_
          rw [← ht, List.getElem?_append_left (List.idxOf_lt_length_iff.mpr m)]
          exact idx_at m
        rw [this]
        rfl
      | succ i => exact h3 i x (by simpa using e)
    · rw [if_neg m, if_neg m]
      have nd1 : (seen ++ [y]).Nodup := by
        rw [List.nodup_append]
        exact ⟨nd, by simp, fun a ha b hb => by rw [List.mem_singleton.mp hb]; rintro rfl; exact m ha⟩
      obtain ⟨h1, h2, h3⟩ := seenG_spec ys (seen ++ [y]) nd1
      refine ⟨h1, (List.prefix_append seen [y]).trans h2, fun i x e => ?_⟩
      cases i with
      | zero =>
        have e : y = x := by simpa using e
        subst e
        refine ⟨h2.subset (by simp), ?_⟩
        obtain ⟨t, ht⟩ := h2
        have : (seenG (seen ++ [y]) ys).idxOf y = seen.length := by
          refine idx_is h1 ?_
          rw [← ht, List.getElem?_append_left (by simp), List.getElem?_append_right (Nat.le_refl _), Nat.sub_self]
          rfl
        rw [this]
        rfl
      | succ i => exact h3 i x (by simpa using e)
theorem nam_ker (l : List Int) : KEq (nam l) l := by
  obtain ⟨nd, _, h⟩ := seenG_spec l [] List.nodup_nil
  refine ⟨nam_len l, fun i j => ?_⟩
  cases ei : l[i]? with
  | none =>
    have e1 : (nam l)[i]? = none := by rw [List.getElem?_eq_none_iff] at ei ⊢; rw [nam_len]; exact ei
    cases ej : l[j]? with
    | none =>
      have e2 : (nam l)[j]? = none := by rw [List.getElem?_eq_none_iff] at ej ⊢; rw [nam_len]; exact ej
      rw [e1, e2]
    | some y =>
      obtain ⟨_, e2⟩ := h j y ej
      have e2 : (nam l)[j]? = _ := e2
      rw [e1, e2]
      exact ⟨fun q => (nomatch q), fun q => (nomatch q)⟩
  | some x =>
    obtain ⟨m1, e1⟩ := h i x ei
    have e1 : (nam l)[i]? = _ := e1
    cases ej : l[j]? with
    | none =>
      have e2 : (nam l)[j]? = none := by rw [List.getElem?_eq_none_iff] at ej ⊢; rw [nam_len]; exact ej
      rw [e1, e2]
      exact ⟨fun q => (nomatch q), fun q => (nomatch q)⟩
    | some y =>
      obtain ⟨m2, e2⟩ := h j y ej
      have e2 : (nam l)[j]? = _ := e2
      rw [e1, e2]
      constructor
      · intro q
        have q : (((seenG [] l).idxOf x : Nat) : Int) = ((seenG [] l).idxOf y : Nat) := Option.some.inj q
        have q : (seenG [] l).idxOf x = (seenG [] l).idxOf y := by omega
        rw [← idx_at m1, ← idx_at m2, q]
      · intro q
        rw [Option.some.inj q]
theorem nam_nam (l : List Int) : nam (nam l) = nam l := nam_congr (nam_ker l)
theorem nam_eq {l l' : List Int} (h : nam l = l) (h' : nam l' = l') (k : KEq l l') : l = l' := by rw [← h, ← h', nam_congr k]
/-- names are below the length -/
theorem namG_lt : ∀ (l seen : List Int) (x : Int), x ∈ namG seen l → 0 ≤ x ∧ x < (seen.length + l.length : Nat)
  | [], _, _, h => by cases h
  | y :: ys, seen, x, h => by
    unfold namG at h
    split at h
    · rename_i m
      rcases List.mem_cons.mp h with rfl | h
      · have := List.idxOf_lt_length_iff.mpr m
        rw [List.length_cons]
        omega
      · have := namG_lt ys seen x h
        rw [List.length_cons]
        omega
    · rcases List.mem_cons.mp h with rfl | h
      · rw [List.length_cons]
        omega
      · have := namG_lt ys (seen ++ [y]) x h
        rw [List.length_append, List.length_singleton] at this
        rw [List.length_cons]
        omega
theorem nam_lt {l : List Int} {x : Int} (h : x ∈ nam l) : 0 ≤ x ∧ x < (l.length : Int) := by
  have := namG_lt l [] x h
  simpa using this
end Fig

/-! M5: labels joined pair by pair are the three rows' closure. -/
namespace Fig
section
variable {n : Nat}
def pos : Pt n → Nat
  | .inl i => i.val
  | .inr i => n + i.val
/-- the equalities of a list of 2n labels -/
def kr (n : Nat) (l : List Int) : Rl (Pt n) := fun x y => l[pos x]? = l[pos y]?
theorem kr_eqv (l : List Int) : Eqv (kr n l) := ⟨fun _ => rfl, fun h => Eq.symm h, fun h k => Eq.trans h k⟩
/-- outer places among the 4n -/
def outq : Pt n → Nat
  | .inl i => i.val
  | .inr i => 3 * n + i.val
def place : Fin n ⊕ Pt n → Nat
  | .inl i => i.val
  | .inr (.inl i) => n + i.val
  | .inr (.inr i) => 3 * n + i.val
/-- the point of a place -/
def IsPt (j : Nat) (p : Fin n ⊕ Pt n) : Prop := match p with
  | .inl i => j = i.val
  | .inr (.inl i) => j = n + i.val ∨ j = 2 * n + i.val
  | .inr (.inr i) => j = 3 * n + i.val
theorem pt_ex {j : Nat} (h : j < 4 * n) : ∃ p : Fin n ⊕ Pt n, IsPt j p := by
  by_cases h1 : j < n
  · exact ⟨.inl ⟨j, h1⟩, rfl⟩
  · by_cases h2 : j < 2 * n
    · exact ⟨.inr (.inl ⟨j - n, by omega⟩), .inl (show j = n + (j - n) by omega)⟩
    · by_cases h3 : j < 3 * n
      · exact ⟨.inr (.inl ⟨j - 2 * n, by omega⟩), .inr (show j = 2 * n + (j - 2 * n) by omega)⟩
      · exact ⟨.inr (.inr ⟨j - 3 * n, by omega⟩), show j = 3 * n + (j - 3 * n) by omega⟩
theorem place_pt : ∀ p : Fin n ⊕ Pt n, IsPt (place p) p
  | .inl _ => rfl
  | .inr (.inl _) => .inl rfl
  | .inr (.inr _) => rfl
theorem place_lt : ∀ p : Fin n ⊕ Pt n, place p < 4 * n
  | .inl i => by have := i.isLt; show i.val < _; omega
  | .inr (.inl i) => by have := i.isLt; show n + i.val < _; omega
  | .inr (.inr i) => by have := i.isLt; show 3 * n + i.val < _; omega
/-- labels joined pair by pair -/
structure Joins (n : Nat) (near far : List Int) (μ : Nat → Nat → Int) : Prop where
  zero : ∀ j j', j < 4 * n → j' < 4 * n → (μ 0 j = μ 0 j' ↔ (j < 2 * n ∧ j' < 2 * n ∧ near[j]? = near[j']?) ∨ (2 * n ≤ j ∧ 2 * n ≤ j' ∧ far[j - 2 * n]? = far[j' - 2 * n]?))
  keep : ∀ k j j', k < n → j < 4 * n → j' < 4 * n → μ k j = μ k j' → μ (k + 1) j = μ (k + 1) j'
  join : ∀ k, k < n → μ (k + 1) (n + k) = μ (k + 1) (2 * n + k)
  only : ∀ k j j', k < n → j < 4 * n → j' < 4 * n → μ (k + 1) j = μ (k + 1) j' → μ k j = μ k j' ∨ (μ k j = μ k (n + k) ∧ μ k j' = μ k (2 * n + k)) ∨ (μ k j = μ k (2 * n + k) ∧ μ k j' = μ k (n + k))
variable {near far : List Int} {μ : Nat → Nat → Int}
theorem Joins.stay (J : Joins n near far μ) {j j' : Nat} (hj : j < 4 * n) (hj' : j' < 4 * n) : ∀ m k, k + m ≤ n → μ k j = μ k j' → μ (k + m) j = μ (k + m) j'
  | 0, _, _, h => h
  | m + 1, k, hk, h => J.keep (k + m) j j' (by omega) hj hj' (J.stay hj hj' m k (by omega) h)
/-- into the closure -/
theorem Joins.into (J : Joins n near far μ) : ∀ k, k ≤ n → ∀ (j j' : Nat) (p p' : Fin n ⊕ Pt n), j < 4 * n → j' < 4 * n → IsPt j p → IsPt j' p' → μ k j = μ k j' → Cl (Three (kr n near) (kr n far)) p p' := by
  have mid : ∀ {j : Nat} {i : Fin n} {p : Fin n ⊕ Pt n}, IsPt j p → (j = n + i.val ∨ j = 2 * n + i.val) → p = .inr (.inl i) := fun {j i p} h e => by
    have hi := i.isLt
    cases p with
    | inl a => have h : j = a.val := h; have := a.isLt; omega
    | inr q =>
      cases q with
      | inl a =>
        have h : j = n + a.val ∨ j = 2 * n + a.val := h
        have := a.isLt
        exact congrArg (fun z => Sum.inr (Sum.inl z)) (Fin.ext (by omega))
      | inr a => have h : j = 3 * n + a.val := h; have := a.isLt; omega
  intro k
  induction k with
  | zero =>
    intro _ j j' p p' hj hj' hp hp' h
    rcases (J.zero j j' hj hj').mp h with ⟨l1, l2, e⟩ | ⟨l1, l2, e⟩
    · -- both of the upper figure
      cases p with
      | inl a =>
        have hp : j = a.val := hp
        cases p' with
        | inl b =>
          have hp' : j' = b.val := hp'
          subst hp hp'
          exact .one (.tt e)
        | inr q =>
          cases q with
          | inl b =>
            have hp' : j' = n + b.val ∨ j' = 2 * n + b.val := hp'
            have hp' : j' = n + b.val := by omega
            subst hp hp'
            exact .one (.tm e)
          | inr b => have hp' : j' = 3 * n + b.val := hp'; omega
      | inr q =>
        cases q with
        | inl a =>
          have hp : j = n + a.val ∨ j = 2 * n + a.val := hp
          have hp : j = n + a.val := by omega
          cases p' with
          | inl b =>
            have hp' : j' = b.val := hp'
            subst hp hp'
            exact .symm (.one (.tm (Eq.symm e)))
          | inr q' =>
            cases q' with
            | inl b =>
              have hp' : j' = n + b.val ∨ j' = 2 * n + b.val := hp'
              have hp' : j' = n + b.val := by omega
              subst hp hp'
              exact .one (.mm e)
            | inr b => have hp' : j' = 3 * n + b.val := hp'; omega
        | inr a => have hp : j = 3 * n + a.val := hp; omega
    · -- both of the lower figure
      have low : ∀ {j : Nat} {p : Fin n ⊕ Pt n}, 2 * n ≤ j → IsPt j p → ∃ q : Pt n, p = .inr q ∧ j - 2 * n = pos q := fun {j p} l h => by
        cases p with
        | inl a => have h : j = a.val := h; have := a.isLt; omega
        | inr q =>
          cases q with
          | inl a =>
            have h : j = n + a.val ∨ j = 2 * n + a.val := h
            have := a.isLt
            exact ⟨_, rfl, show j - 2 * n = a.val by omega⟩
          | inr a => have h : j = 3 * n + a.val := h; exact ⟨_, rfl, show j - 2 * n = n + a.val by omega⟩
      obtain ⟨q, rfl, e1⟩ := low l1 hp
      obtain ⟨q', rfl, e2⟩ := low l2 hp'
      rw [e1, e2] at e
      exact .one (.fig e)
  | succ k ih =>
    intro hk j j' p p' hj hj' hp hp' h
    have ih := ih (by omega)
    have m1 : IsPt (n + k) (Sum.inr (Sum.inl (⟨k, by omega⟩ : Fin n)) : Fin n ⊕ Pt n) := .inl rfl
    have m2 : IsPt (2 * n + k) (Sum.inr (Sum.inl (⟨k, by omega⟩ : Fin n)) : Fin n ⊕ Pt n) := .inr rfl
    rcases J.only k j j' (by omega) hj hj' h with h | ⟨h1, h2⟩ | ⟨h1, h2⟩
    · exact ih j j' p p' hj hj' hp hp' h
    · exact .trans (ih j (n + k) p _ hj (by omega) hp m1 h1) (.symm (ih j' (2 * n + k) p' _ hj' (by omega) hp' m2 h2))
    · exact .trans (ih j (2 * n + k) p _ hj (by omega) hp m2 h1) (.symm (ih j' (n + k) p' _ hj' (by omega) hp' m1 h2))
/-- from the closure -/
theorem Joins.from (J : Joins n near far μ) : ∀ {p p' : Fin n ⊕ Pt n}, Cl (Three (kr n near) (kr n far)) p p' → μ n (place p) = μ n (place p') := by
  have up_ : ∀ {j j' : Nat}, j < 2 * n → j' < 2 * n → near[j]? = near[j']? → μ n j = μ n j' := fun {j j'} h h' e => by
    have := J.stay (show j < 4 * n by omega) (show j' < 4 * n by omega) n 0 (by omega) ((J.zero j j' (by omega) (by omega)).mpr (.inl ⟨h, h', e⟩))
    rw [Nat.zero_add] at this
    exact this
  have lo_ : ∀ {j j' : Nat}, j < 2 * n → j' < 2 * n → far[j]? = far[j']? → μ n (2 * n + j) = μ n (2 * n + j') := fun {j j'} h h' e => by
    have := J.stay (show 2 * n + j < 4 * n by omega) (show 2 * n + j' < 4 * n by omega) n 0 (by omega) ((J.zero _ _ (by omega) (by omega)).mpr (.inr ⟨by omega, by omega, by
      rw [show 2 * n + j - 2 * n = j by omega, show 2 * n + j' - 2 * n = j' by omega]; exact e⟩))
    rw [Nat.zero_add] at this
    exact this
  have joined : ∀ k, k < n → μ n (n + k) = μ n (2 * n + k) := fun k hk => by
    have := J.stay (show n + k < 4 * n by omega) (show 2 * n + k < 4 * n by omega) (n - (k + 1)) (k + 1) (by omega) (J.join k hk)
    rw [show k + 1 + (n - (k + 1)) = n by omega] at this
    exact this
  -- a point of the lower figure by its lower place
  have low : ∀ q : Pt n, μ n (place (.inr q)) = μ n (2 * n + pos q) := fun q => by
    cases q with
    | inl a => exact joined a.val a.isLt
    | inr a => show μ n (3 * n + a.val) = μ n (2 * n + (n + a.val)); congr 1; omega
  intro p p' h
  refine Cl.least (s := fun p p' => μ n (place p) = μ n (place p')) (fun p p' h => ?_) (fun _ => rfl) (fun _ _ h => Eq.symm h) (fun _ _ _ h k => Eq.trans h k) h
  cases h with
  | @tt i j e => exact up_ (show i.val < 2 * n by have := i.isLt; omega) (show j.val < 2 * n by have := j.isLt; omega) e
  | @tm i j e => exact up_ (show i.val < 2 * n by have := i.isLt; omega) (show n + j.val < 2 * n by have := j.isLt; omega) e
  | @mm i j e => exact up_ (show n + i.val < 2 * n by have := i.isLt; omega) (show n + j.val < 2 * n by have := j.isLt; omega) e
  | fig e =>
    rename_i x y
    have lt : ∀ q : Pt n, pos q < 2 * n := fun q => by
      cases q with
      | inl a => have := a.isLt; show a.val < _; omega
      | inr a => have := a.isLt; show n + a.val < _; omega
    show μ n (place (.inr x)) = μ n (place (.inr y))
    rw [low, low]
    exact lo_ (lt x) (lt y) e
theorem outq_place : ∀ x : Pt n, outq x = place (out x)
  | .inl _ => rfl
  | .inr _ => rfl
/-- the outer labels in the end are the figure put upon -/
theorem Joins.up (J : Joins n near far μ) (x y : Pt n) : μ n (outq x) = μ n (outq y) ↔ up (kr n near) (kr n far) x y := by
  rw [outq_place, outq_place]
  exact ⟨fun h => J.into n (Nat.le_refl _) _ _ _ _ (place_lt _) (place_lt _) (place_pt _) (place_pt _) h, fun h => J.from h⟩
end
end Fig

/-! M6: putting upon, by relabelling and by links; powers. -/
namespace Fig
/-- a figure of n cords, its labels named by first sight -/
structure Fg (n : Nat) (l : List Int) : Prop where
  len : l.length = 2 * n
  nm : nam l = l
theorem Fg.lt {n : Nat} {l : List Int} (h : Fg n l) {x : Int} (m : x ∈ l) : 0 ≤ x ∧ x < 2 * (n : Int) := by
  rw [← h.nm] at m
  have := nam_lt m
  rw [h.len] at this
  omega
def lab (n : Nat) (near far : List Int) : List Int := near ++ far.map fun x => 2 * (n : Int) + x
def mk (n : Nat) (l : List Int) (k : Nat) : List Int :=
  if l.getD (2 * n + k) 0 ≠ l.getD (n + k) 0 then l.map fun x => if x = l.getD (2 * n + k) 0 then l.getD (n + k) 0 else x else l
def mks (n : Nat) (l : List Int) : Nat → List Int
  | 0 => l
  | k + 1 => mk n (mks n l k) k
def kept (n : Nat) (l : List Int) : List Int := l.take n ++ l.drop (3 * n)
def lup (n : Nat) (near far : List Int) : List Int := nam (kept n (mks n (lab n near far) n))
theorem mk_len (n : Nat) (l : List Int) (k : Nat) : (mk n l k).length = l.length := by
  unfold mk
  split <;> simp
theorem mks_len (n : Nat) (l : List Int) : ∀ k, (mks n l k).length = l.length
  | 0 => rfl
  | k + 1 => by show (mk n (mks n l k) k).length = _; rw [mk_len, mks_len n l k]
theorem lab_len {n : Nat} {near far : List Int} (h1 : near.length = 2 * n) (h2 : far.length = 2 * n) : (lab n near far).length = 4 * n := by
  unfold lab
  rw [List.length_append, List.length_map, h1, h2]
  omega
theorem getD_some {l : List Int} {i : Nat} (h : i < l.length) : l[i]? = some (l.getD i 0) := by
  rw [List.getD_eq_getElem?_getD, List.getElem?_eq_getElem h]; rfl
theorem getD_eq {l : List Int} {i j : Nat} (hi : i < l.length) (hj : j < l.length) : l.getD i 0 = l.getD j 0 ↔ l[i]? = l[j]? := by
  rw [getD_some hi, getD_some hj]
  exact ⟨fun h => by rw [h], fun h => Option.some.inj h⟩
/-- the labels at the start -/
theorem lab_zero {n : Nat} {near far : List Int} (f1 : Fg n near) (f2 : Fg n far) {j j' : Nat} (hj : j < 4 * n) (hj' : j' < 4 * n) :
    ((lab n near far).getD j 0 = (lab n near far).getD j' 0 ↔ (j < 2 * n ∧ j' < 2 * n ∧ near[j]? = near[j']?) ∨ (2 * n ≤ j ∧ 2 * n ≤ j' ∧ far[j - 2 * n]? = far[j' - 2 * n]?)) := by
  have l1 := f1.len
  have l2 := f2.len
  have ll := lab_len (n := n) l1 l2
  have upper : ∀ {i : Nat}, i < 2 * n → (lab n near far)[i]? = near[i]? := fun {i} h => List.getElem?_append_left (by omega)
  have lower : ∀ {i : Nat}, 2 * n ≤ i → (lab n near far)[i]? = (far[i - 2 * n]?).map fun x => 2 * (n : Int) + x := fun {i} h => by
    unfold lab
    rw [List.getElem?_append_right (by omega), l1, List.getElem?_map]
  rw [getD_eq (by omega) (by omega)]
  by_cases h : j < 2 * n
  · by_cases h' : j' < 2 * n
    · rw [upper h, upper h']
      exact ⟨fun e => .inl ⟨h, h', e⟩, fun e => e.elim (fun e => e.2.2) fun e => by omega⟩
    · rw [upper h, lower (by omega)]
      constructor
      · intro e
        have h1 : j < near.length := by omega
        rw [List.getElem?_eq_getElem h1] at e
        have h2 : j' - 2 * n < far.length := by omega
        rw [List.getElem?_eq_getElem h2] at e
        have e := Option.some.inj e
        dsimp only at e
        have b1 := f1.lt (List.getElem_mem h1)
        have b2 := f2.lt (List.getElem_mem h2)
        omega
      · rintro (e | e) <;> omega
  · by_cases h' : j' < 2 * n
    · rw [upper h', lower (by omega)]
      constructor
      · intro e
        have h1 : j' < near.length := by omega
        rw [List.getElem?_eq_getElem h1] at e
        have h2 : j - 2 * n < far.length := by omega
        rw [List.getElem?_eq_getElem h2] at e
        have e := Option.some.inj e
        dsimp only at e
        have b1 := f1.lt (List.getElem_mem h1)
        have b2 := f2.lt (List.getElem_mem h2)
        omega
      · rintro (e | e) <;> omega
    · rw [lower (by omega), lower (by omega)]
      have h1 : j - 2 * n < far.length := by omega
      have h2 : j' - 2 * n < far.length := by omega
      rw [List.getElem?_eq_getElem h1, List.getElem?_eq_getElem h2]
      constructor
      · intro e
        have e := Option.some.inj e
        have e : 2 * (n : Int) + far[j - 2 * n] = 2 * (n : Int) + far[j' - 2 * n] := e
        exact .inr ⟨by omega, by omega, by congr 1; omega⟩
      · rintro (e | e)
        · omega
        · have e := Option.some.inj e.2.2
          rw [e]
/-- one join of labels -/
theorem mk_get {n : Nat} {l : List Int} {k j : Nat} (hj : j < l.length) : (mk n l k).getD j 0 = if l.getD j 0 = l.getD (2 * n + k) 0 then l.getD (n + k) 0 else l.getD j 0 := by
  unfold mk
  split
  · rw [List.getD_eq_getElem?_getD, List.getElem?_map, getD_some hj]
    rfl
  · rename_i h
    have h : l.getD (2 * n + k) 0 = l.getD (n + k) 0 := Classical.byContradiction h
    split
    · rename_i e; rw [e, h]
    · rfl
theorem mks_joins {n : Nat} {near far : List Int} (f1 : Fg n near) (f2 : Fg n far) : Joins n near far fun k j => (mks n (lab n near far) k).getD j 0 := by
  have ll : ∀ k, (mks n (lab n near far) k).length = 4 * n := fun k => by rw [mks_len, lab_len f1.len f2.len]
  have g : ∀ k j, j < 4 * n → (mks n (lab n near far) (k + 1)).getD j 0 = if (mks n (lab n near far) k).getD j 0 = (mks n (lab n near far) k).getD (2 * n + k) 0 then (mks n (lab n near far) k).getD (n + k) 0 else (mks n (lab n near far) k).getD j 0 :=
    fun k j hj => mk_get (by rw [ll]; exact hj)
  refine ⟨fun j j' hj hj' => lab_zero f1 f2 hj hj', fun k j j' hk hj hj' e => ?_, fun k hk => ?_, fun k j j' hk hj hj' e => ?_⟩
  · show (mks n _ (k + 1)).getD j 0 = (mks n _ (k + 1)).getD j' 0
    rw [g k j hj, g k j' hj']
    have e : (mks n (lab n near far) k).getD j 0 = (mks n (lab n near far) k).getD j' 0 := e
    rw [e]
  · show (mks n _ (k + 1)).getD _ 0 = (mks n _ (k + 1)).getD _ 0
    rw [g k _ (by omega), g k _ (by omega)]
    rw [if_pos rfl]
    split <;> rfl
  · have e : (mks n _ (k + 1)).getD j 0 = (mks n _ (k + 1)).getD j' 0 := e
    rw [g k j hj, g k j' hj'] at e
    show (mks n _ k).getD j 0 = (mks n _ k).getD j' 0 ∨ ((mks n _ k).getD j 0 = (mks n _ k).getD (n + k) 0 ∧ (mks n _ k).getD j' 0 = (mks n _ k).getD (2 * n + k) 0) ∨ ((mks n _ k).getD j 0 = (mks n _ k).getD (2 * n + k) 0 ∧ (mks n _ k).getD j' 0 = (mks n _ k).getD (n + k) 0)
    split at e <;> split at e
    · rename_i h1 h2; exact .inl (h1.trans h2.symm)
    · rename_i h1 h2; exact .inr (.inr ⟨h1, e.symm⟩)
    · rename_i h1 h2; exact .inr (.inl ⟨e, h2⟩)
    · exact .inl e
/-- roots of labels: each join puts the less in the greater's place -/
def rho (n : Nat) (l : List Int) : Nat → Int → Int
  | 0, x => x
  | k + 1, x => if rho n l k x = max (rho n l k (l.getD (n + k) 0)) (rho n l k (l.getD (2 * n + k) 0)) then min (rho n l k (l.getD (n + k) 0)) (rho n l k (l.getD (2 * n + k) 0)) else rho n l k x
theorem rho_joins {n : Nat} {near far : List Int} (f1 : Fg n near) (f2 : Fg n far) : Joins n near far fun k j => rho n (lab n near far) k ((lab n near far).getD j 0) := by
  refine ⟨fun j j' hj hj' => lab_zero f1 f2 hj hj', fun k j j' hk hj hj' e => ?_, fun k hk => ?_, fun k j j' hk hj hj' e => ?_⟩
  · have e : rho n (lab n near far) k ((lab n near far).getD j 0) = rho n (lab n near far) k ((lab n near far).getD j' 0) := e
    show (if _ then _ else _) = (if _ then _ else _)
    rw [e]
  · show (if _ then _ else _) = (if _ then _ else _)
    generalize rho n (lab n near far) k ((lab n near far).getD (n + k) 0) = a
    generalize rho n (lab n near far) k ((lab n near far).getD (2 * n + k) 0) = b
    rcases Int.le_total a b with h | h
    · rw [Int.max_eq_right h, Int.min_eq_left h]
      split <;> split <;> omega
    · rw [Int.max_eq_left h, Int.min_eq_right h]
      split <;> split <;> omega
  · have e : (if _ then _ else _) = (if _ then _ else _) := e
    show rho n (lab n near far) k ((lab n near far).getD j 0) = rho n (lab n near far) k ((lab n near far).getD j' 0) ∨ (rho n (lab n near far) k ((lab n near far).getD j 0) = rho n (lab n near far) k ((lab n near far).getD (n + k) 0) ∧ rho n (lab n near far) k ((lab n near far).getD j' 0) = rho n (lab n near far) k ((lab n near far).getD (2 * n + k) 0)) ∨
      (rho n (lab n near far) k ((lab n near far).getD j 0) = rho n (lab n near far) k ((lab n near far).getD (2 * n + k) 0) ∧ rho n (lab n near far) k ((lab n near far).getD j' 0) = rho n (lab n near far) k ((lab n near far).getD (n + k) 0))
    revert e
    generalize rho n (lab n near far) k ((lab n near far).getD (n + k) 0) = a
    generalize rho n (lab n near far) k ((lab n near far).getD (2 * n + k) 0) = b
    generalize rho n (lab n near far) k ((lab n near far).getD j 0) = x
    generalize rho n (lab n near far) k ((lab n near far).getD j' 0) = y
    rcases Int.le_total a b with h | h
    · rw [Int.max_eq_right h, Int.min_eq_left h]
      intro e
      split at e <;> split at e <;> omega
    · rw [Int.max_eq_left h, Int.min_eq_right h]
      intro e
      split at e <;> split at e <;> omega
/-- lists of 2n labels with the same equalities on points -/
theorem keq_of {n : Nat} {l l' : List Int} (h1 : l.length = 2 * n) (h2 : l'.length = 2 * n) (h : ∀ x y : Pt n, kr n l x y ↔ kr n l' x y) : KEq l l' := by
  refine ⟨h1.trans h2.symm, fun i j => ?_⟩
  have pt : ∀ {i : Nat}, i < 2 * n → ∃ x : Pt n, pos x = i := fun {i} hi => by
    by_cases h : i < n
    · exact ⟨.inl ⟨i, h⟩, rfl⟩
    · exact ⟨.inr ⟨i - n, by omega⟩, show n + (i - n) = i by omega⟩
  by_cases hi : i < 2 * n
  · by_cases hj : j < 2 * n
    · obtain ⟨x, rfl⟩ := pt hi
      obtain ⟨y, rfl⟩ := pt hj
      exact h x y
    · rw [List.getElem?_eq_none (show l.length ≤ j by omega), List.getElem?_eq_none (show l'.length ≤ j by omega), List.getElem?_eq_none_iff, List.getElem?_eq_none_iff, h1, h2]
  · rw [List.getElem?_eq_none (show l.length ≤ i by omega), List.getElem?_eq_none (show l'.length ≤ i by omega)]
    constructor
    · intro e; have := List.getElem?_eq_none_iff.mp e.symm; exact (List.getElem?_eq_none (by omega)).symm
    · intro e; have := List.getElem?_eq_none_iff.mp e.symm; exact (List.getElem?_eq_none (by omega)).symm
theorem kept_len {n : Nat} {l : List Int} (h : l.length = 4 * n) : (kept n l).length = 2 * n := by
  unfold kept
  rw [List.length_append, List.length_take, List.length_drop, h]
  omega
theorem kept_get {n : Nat} {l : List Int} (h : l.length = 4 * n) (x : Pt n) : (kept n l)[pos x]? = l[outq x]? := by
  unfold kept
  cases x with
  | inl i =>
    have := i.isLt
    show (l.take n ++ l.drop (3 * n))[i.val]? = l[i.val]?
    rw [List.getElem?_append_left (by rw [List.length_take]; omega), List.getElem?_take, if_pos this]
  | inr i =>
    have := i.isLt
    show (l.take n ++ l.drop (3 * n))[n + i.val]? = l[3 * n + i.val]?
    rw [List.getElem?_append_right (by rw [List.length_take]; omega), List.length_take, List.getElem?_drop]
    congr 1
    omega
theorem outq_lt {n : Nat} (x : Pt n) : outq x < 4 * n := by
  cases x with
  | inl i => have := i.isLt; show i.val < _; omega
  | inr i => have := i.isLt; show 3 * n + i.val < _; omega
theorem lup_len {n : Nat} {near far : List Int} (f1 : Fg n near) (f2 : Fg n far) : (lup n near far).length = 2 * n := by
  unfold lup
  rw [nam_len, kept_len]
  rw [mks_len, lab_len f1.len f2.len]
theorem lup_fg {n : Nat} {near far : List Int} (f1 : Fg n near) (f2 : Fg n far) : Fg n (lup n near far) := ⟨lup_len f1 f2, nam_nam _⟩
theorem lup_kr {n : Nat} {near far : List Int} (f1 : Fg n near) (f2 : Fg n far) (x y : Pt n) : kr n (lup n near far) x y ↔ up (kr n near) (kr n far) x y := by
  have ll : (mks n (lab n near far) n).length = 4 * n := by rw [mks_len, lab_len f1.len f2.len]
  refine Iff.trans ?_ ((mks_joins f1 f2).up x y)
  show (lup n near far)[pos x]? = (lup n near far)[pos y]? ↔ _
  unfold lup
  rw [(nam_ker _).eq, kept_get ll, kept_get ll, ← getD_eq (by rw [ll]; exact outq_lt x) (by rw [ll]; exact outq_lt y)]
/-- by links -/
def uup (n : Nat) (near far : List Int) : List Int := nam ((near.take n).map (rho n (lab n near far) n) ++ (far.drop n).map fun x => rho n (lab n near far) n (2 * (n : Int) + x))
theorem uup_list {n : Nat} {near far : List Int} (f1 : Fg n near) (f2 : Fg n far) : (near.take n).map (rho n (lab n near far) n) ++ (far.drop n).map (fun x => rho n (lab n near far) n (2 * (n : Int) + x)) = kept n ((lab n near far).map (rho n (lab n near far) n)) := by
  generalize rho n (lab n near far) n = ρ
  unfold kept lab
  have l1 := f1.len
  rw [← List.map_take, ← List.map_drop, List.take_append_of_le_length (by omega), List.drop_append, show 3 * n - near.length = n by omega, List.drop_eq_nil_of_le (show near.length ≤ 3 * n by omega), List.nil_append, ← List.map_drop, List.map_map]
  rfl
theorem uup_lup {n : Nat} {near far : List Int} (f1 : Fg n near) (f2 : Fg n far) : uup n near far = lup n near far := by
  have ll : (mks n (lab n near far) n).length = 4 * n := by rw [mks_len, lab_len f1.len f2.len]
  have lm : ((lab n near far).map (rho n (lab n near far) n)).length = 4 * n := by rw [List.length_map, lab_len f1.len f2.len]
  have l0 := lab_len (n := n) f1.len f2.len
  unfold uup lup
  rw [uup_list f1 f2]
  refine nam_congr (keq_of (kept_len lm) (kept_len ll) fun x y => ?_)
  refine Iff.trans ?_ (((rho_joins f1 f2).up x y).trans (((mks_joins f1 f2).up x y).symm.trans ?_))
  · show (kept n _)[pos x]? = (kept n _)[pos y]? ↔ _
    rw [kept_get lm, kept_get lm, List.getElem?_map, List.getElem?_map, getD_some (by rw [l0]; exact outq_lt x), getD_some (by rw [l0]; exact outq_lt y)]
    exact ⟨fun h => Option.some.inj h, fun h => congrArg some h⟩
  · show _ ↔ (kept n _)[pos x]? = (kept n _)[pos y]?
    rw [kept_get ll, kept_get ll]
    exact getD_eq (by rw [ll]; exact outq_lt x) (by rw [ll]; exact outq_lt y)
/-! powers -/
def strt (n : Nat) : List Int := (List.range n).map (fun i : Nat => (i : Int)) ++ (List.range n).map (fun i : Nat => (i : Int))
theorem strt_get {n : Nat} (x : Pt n) : (strt n)[pos x]? = some ((col x).val : Int) := by
  unfold strt
  cases x with
  | inl i =>
    have := i.isLt
    show ((List.range n).map _ ++ _)[i.val]? = some ((i.val : Nat) : Int)
    rw [List.getElem?_append_left (by simp), List.getElem?_map, List.getElem?_range this]
    rfl
  | inr i =>
    have := i.isLt
    show ((List.range n).map _ ++ _)[n + i.val]? = some ((i.val : Nat) : Int)
    rw [List.getElem?_append_right (by simp), List.length_map, List.length_range, Nat.add_sub_cancel_left, List.getElem?_map, List.getElem?_range this]
    rfl
theorem strt_kr {n : Nat} (x y : Pt n) : kr n (strt n) x y ↔ E0 x y := by
  show (strt n)[pos x]? = (strt n)[pos y]? ↔ col x = col y
  rw [strt_get, strt_get]
  constructor
  · intro h
    have h := Option.some.inj h
    exact Fin.ext (by omega)
  · intro h; rw [h]
def pw (n : Nat) (fig : List Int) : Nat → List Int
  | 0 => strt n
  | k + 1 => lup n (pw n fig k) fig
theorem namG_range : ∀ (m : Nat) (s : Nat), namG ((List.range s).map (fun i : Nat => (i : Int))) ((List.range' s m).map fun i : Nat => (i : Int)) = (List.range' s m).map fun i : Nat => (i : Int)
  | 0, _ => rfl
  | m + 1, s => by
    rw [List.range'_succ, List.map_cons]
    unfold namG
    rw [if_neg (by simp; omega), List.length_map, List.length_range]
    congr 1
    have := namG_range m (s + 1)
    rw [List.range_succ, List.map_append] at this
    exact this
theorem namG_seen : ∀ (l seen : List Int), (∀ x ∈ l, x ∈ seen) → namG seen l = l.map fun x => (seen.idxOf x : Int)
  | [], _, _ => rfl
  | x :: xs, seen, h => by
    unfold namG
    rw [if_pos (h x List.mem_cons_self), namG_seen xs seen fun y m => h y (List.mem_cons_of_mem _ m)]
    rfl
theorem namG_app : ∀ (l m seen : List Int), namG seen (l ++ m) = namG seen l ++ namG (seenG seen l) m
  | [], _, _ => rfl
  | x :: xs, m, seen => by
    have e1 : namG seen (x :: xs) = if x ∈ seen then (seen.idxOf x : Int) :: namG seen xs else (seen.length : Int) :: namG (seen ++ [x]) xs := rfl
    have e2 : namG seen (x :: (xs ++ m)) = if x ∈ seen then (seen.idxOf x : Int) :: namG seen (xs ++ m) else (seen.length : Int) :: namG (seen ++ [x]) (xs ++ m) := rfl
    have e3 : seenG seen (x :: xs) = if x ∈ seen then seenG seen xs else seenG (seen ++ [x]) xs := rfl
    rw [List.cons_append, e1, e2, e3]
    by_cases h : x ∈ seen
    · rw [if_pos h, if_pos h, if_pos h, namG_app xs m seen, List.cons_append]
    · rw [if_neg h, if_neg h, if_neg h, namG_app xs m (seen ++ [x]), List.cons_append]
theorem seenG_range : ∀ (m s : Nat), seenG ((List.range s).map (fun i : Nat => (i : Int))) ((List.range' s m).map fun i : Nat => (i : Int)) = (List.range (s + m)).map fun i : Nat => (i : Int)
  | 0, _ => rfl
  | m + 1, s => by
    rw [List.range'_succ, List.map_cons]
    unfold seenG
    rw [if_neg (by simp; omega)]
    have := seenG_range m (s + 1)
    rw [List.range_succ, List.map_append] at this
    rw [show s + (m + 1) = s + 1 + m by omega]
    exact this
theorem map_nodup {α β : Type} {f : α → β} (inj : ∀ a b, f a = f b → a = b) : ∀ {l : List α}, l.Nodup → (l.map f).Nodup
  | [], _ => List.nodup_nil
  | x :: xs, h => by
    have h := List.nodup_cons.mp h
    rw [List.map_cons, List.nodup_cons]
    refine ⟨fun m => ?_, map_nodup inj h.2⟩
    obtain ⟨y, hy, e⟩ := List.mem_map.mp m
    exact h.1 (inj _ _ e ▸ hy)
theorem strt_nam (n : Nat) : nam (strt n) = strt n := by
  have e0 : (List.range n).map (fun i : Nat => (i : Int)) = (List.range' 0 n).map fun i : Nat => (i : Int) := by rw [List.range_eq_range']
  have a := namG_range n 0
  have b := seenG_range n 0
  unfold nam strt
  rw [namG_app, e0]
  have a : namG [] ((List.range' 0 n).map fun i : Nat => (i : Int)) = _ := a
  have b : seenG [] ((List.range' 0 n).map fun i : Nat => (i : Int)) = _ := b
  rw [a, b, Nat.zero_add, namG_seen]
  · congr 1
    rw [List.map_map]
    rw [← List.range_eq_range']
    refine List.map_congr_left fun i hi => ?_
    have hi := List.mem_range.mp hi
    show (((List.range n).map (fun i : Nat => (i : Int))).idxOf (i : Int) : Int) = (i : Int)
    have nd : ((List.range n).map (fun i : Nat => (i : Int))).Nodup := map_nodup (fun i j e => by have e : (i : Int) = (j : Int) := e; omega) List.nodup_range
    rw [idx_is nd (i := i) (by rw [List.getElem?_map, List.getElem?_range hi]; rfl)]
  · intro x m
    rw [List.range_eq_range']
    exact m
theorem strt_fg (n : Nat) : Fg n (strt n) := ⟨by unfold strt; simp; omega, strt_nam n⟩
theorem pw_fg {n : Nat} {fig : List Int} (f : Fg n fig) : ∀ k, Fg n (pw n fig k)
  | 0 => strt_fg n
  | k + 1 => lup_fg (pw_fg f k) f
theorem up_congr {n : Nat} {E E' A : Rl (Pt n)} (h : ∀ x y, E x y ↔ E' x y) (x y : Pt n) : up E A x y ↔ up E' A x y := by
  have : E = E' := funext fun a => funext fun b => propext (h a b)
  rw [this]
theorem pw_kr {n : Nat} {fig : List Int} (f : Fg n fig) : ∀ k (x y : Pt n), kr n (pw n fig k) x y ↔ Pw (kr n fig) k x y
  | 0, x, y => strt_kr x y
  | k + 1, x, y => (lup_kr (pw_fg f k) f x y).trans (up_congr (pw_kr f k) x y)
/-- the powers as lists come round -/
theorem pw_round {n : Nat} (hn : n ≤ 5) {fig : List Int} (f : Fg n fig) : ∃ K q, 1 ≤ q ∧ K + q ≤ 36 ∧ pw n fig (K + q) = pw n fig K := by
  obtain ⟨K, q, h1, h2, h3, h4⟩ := rounds hn (kr n fig)
  exact ⟨K, q, h1, by omega, nam_eq (pw_fg f _).nm (pw_fg f _).nm (keq_of (pw_fg f _).len (pw_fg f _).len fun x y => (pw_kr f (K + q) x y).trans ((h4 x y).trans (pw_kr f K x y).symm))⟩
end Fig

/-! M7: links: the first of a link. -/
namespace Fig
/-- each link goes to itself or lower -/
structure LK (l : List Int) : Prop where
  dn : ∀ (i : Nat) (x : Int), l[i]? = some x → 0 ≤ x ∧ x ≤ (i : Int)
def foN (l : List Int) : Nat → Int → Int
  | 0, x => x
  | k + 1, x => if l.getD x.toNat 0 = x then x else foN l k (l.getD x.toNat 0)
def fo (l : List Int) (x : Int) : Int := foN l l.length x
theorem LK.at (h : LK l) {x : Int} (h0 : 0 ≤ x) (h1 : x < (l.length : Int)) : 0 ≤ l.getD x.toNat 0 ∧ l.getD x.toNat 0 ≤ x := by
  have := h.dn x.toNat _ (getD_some (by omega))
  omega
theorem foN_eq (h : LK l) : ∀ (k k' : Nat) (x : Int), 0 ≤ x → x < (l.length : Int) → x < (k : Int) → x < (k' : Int) → foN l k x = foN l k' x
  | 0, _, _, h0, _, h2, _ => by omega
  | _ + 1, 0, _, h0, _, _, h3 => by omega
  | k + 1, k' + 1, x, h0, h1, h2, h3 => by
    unfold foN
    split
    · rfl
    · rename_i ne
      have := h.at h0 h1
      exact foN_eq h k k' _ this.1 (by omega) (by omega) (by omega)
theorem fo_step (h : LK l) {x : Int} (h0 : 0 ≤ x) (h1 : x < (l.length : Int)) : fo l x = if l.getD x.toNat 0 = x then x else fo l (l.getD x.toNat 0) := by
  have : fo l x = foN l (l.length + 1) x := foN_eq h _ _ x h0 h1 h1 (by omega)
  rw [this]
  rfl
theorem fo_spec (h : LK l) : ∀ (k : Nat) (x : Int), 0 ≤ x → x < (l.length : Int) → x < (k : Int) → 0 ≤ fo l x ∧ fo l x ≤ x ∧ l.getD (fo l x).toNat 0 = fo l x
  | 0, x, h0, _, h2 => by omega
  | k + 1, x, h0, h1, h2 => by
    have a := h.at h0 h1
    rw [fo_step h h0 h1]
    split
    · rename_i e; exact ⟨h0, Int.le_refl _, e⟩
    · rename_i ne
      have := fo_spec h k _ a.1 (by omega) (by omega)
      exact ⟨this.1, by omega, this.2.2⟩
theorem fo_ok (h : LK l) {x : Int} (h0 : 0 ≤ x) (h1 : x < (l.length : Int)) : 0 ≤ fo l x ∧ fo l x ≤ x ∧ l.getD (fo l x).toNat 0 = fo l x := fo_spec h l.length x h0 h1 h1
theorem fo_self (h : LK l) {x : Int} (h0 : 0 ≤ x) (h1 : x < (l.length : Int)) (e : l.getD x.toNat 0 = x) : fo l x = x := by
  rw [fo_step h h0 h1, if_pos e]
/-- one link more: from the root hi to the root lo below it, or to itself -/
theorem set_LK (h : LK l) {hi lo : Int} (h0 : 0 ≤ lo) (h1 : lo ≤ hi) : LK (l.set hi.toNat lo) := ⟨fun i x e => by
  by_cases hj : hi.toNat = i
  · have hl : hi.toNat < l.length := by
      have := (List.getElem?_eq_some_iff.mp e).1
      rw [List.length_set] at this
      omega
    subst hj
    rw [List.getElem?_set_self hl] at e
    cases e
    omega
  · rw [List.getElem?_set_ne hj] at e
    exact h.dn i x e⟩
theorem set_getD {l : List Int} {hi lo x : Int} (h0 : 0 ≤ x) (hh : 0 ≤ hi) (hl : hi < (l.length : Int)) : (l.set hi.toNat lo).getD x.toNat 0 = if x = hi then lo else l.getD x.toNat 0 := by
  rw [List.getD_eq_getElem?_getD, List.getD_eq_getElem?_getD]
  split
  · rename_i e; subst e
    rw [List.getElem?_set_self (by omega)]; rfl
  · rename_i ne
    rw [List.getElem?_set_ne (by omega)]
theorem fo_set (h : LK l) {hi lo : Int} (h0 : 0 ≤ lo) (h1 : lo ≤ hi) (h2 : hi < (l.length : Int)) (r1 : l.getD hi.toNat 0 = hi) (r2 : l.getD lo.toNat 0 = lo) :
    ∀ (k : Nat) (x : Int), 0 ≤ x → x < (l.length : Int) → x < (k : Int) → fo (l.set hi.toNat lo) x = if fo l x = hi then lo else fo l x
  | 0, x, a, _, b => by omega
  | k + 1, x, a, b, c => by
    have hL := set_LK h h0 h1
    have len : (l.set hi.toNat lo).length = l.length := List.length_set ..
    have g := fun {y : Int} (hy : 0 ≤ y) => set_getD (l := l) (lo := lo) hy (show 0 ≤ hi by omega) h2
    have low : fo (l.set hi.toNat lo) lo = lo := fo_self hL h0 (by rw [len]; omega) (by
      rw [g h0]; split
      · rfl
      · exact r2)
    rw [fo_step hL a (by rw [len]; exact b), g a]
    by_cases e : x = hi
    · subst e
      rw [if_pos rfl, fo_self h a b r1, if_pos rfl]
      split
      · rename_i e2; exact e2.symm
      · exact low
    · rw [if_neg e, fo_step h a b]
      split
      · first | rfl | rw [if_neg e]
      · have := h.at a b
        exact fo_set h h0 h1 h2 r1 r2 k _ this.1 (by omega) (by omega)
/-- the links of upon_in -/
def lks (n : Nat) (l : List Int) : Nat → List Int
  | 0 => (List.range (4 * n)).map fun i : Nat => (i : Int)
  | k + 1 => (lks n l k).set (max (fo (lks n l k) (l.getD (n + k) 0)) (fo (lks n l k) (l.getD (2 * n + k) 0))).toNat (min (fo (lks n l k) (l.getD (n + k) 0)) (fo (lks n l k) (l.getD (2 * n + k) 0)))
theorem lks_len (n : Nat) (l : List Int) : ∀ k, (lks n l k).length = 4 * n
  | 0 => by show ((List.range (4 * n)).map _).length = _; rw [List.length_map, List.length_range]
  | k + 1 => by show ((lks n l k).set _ _).length = _; rw [List.length_set, lks_len n l k]
theorem lks_rho {n : Nat} {l : List Int} (hl : ∀ i, i < 4 * n → 0 ≤ l.getD i 0 ∧ l.getD i 0 < 4 * (n : Int)) : ∀ k, k ≤ n → LK (lks n l k) ∧ ∀ x : Int, 0 ≤ x → x < 4 * (n : Int) → fo (lks n l k) x = rho n l k x
  | 0, _ => by
    have lk : LK (lks n l 0) := ⟨fun i x e => by
      have e : ((List.range (4 * n)).map fun i : Nat => (i : Int))[i]? = some x := e
      rw [List.getElem?_map] at e
      obtain ⟨j, ej, rfl⟩ := Option.map_eq_some_iff.mp e
      have hj := List.mem_range.mp (List.mem_of_getElem? ej)
      by_cases hi : i < 4 * n
      · rw [List.getElem?_range hi] at ej; cases ej; omega
      · rw [List.getElem?_eq_none (by rw [List.length_range]; omega)] at ej; cases ej⟩
    refine ⟨lk, fun x h0 h1 => fo_self lk h0 (by rw [lks_len]; omega) ?_⟩
    show ((List.range (4 * n)).map fun i : Nat => (i : Int)).getD x.toNat 0 = x
    rw [List.getD_eq_getElem?_getD, List.getElem?_map, List.getElem?_range (by omega)]
    show ((x.toNat : Nat) : Int) = x
    omega
  | k + 1, hk => by
    obtain ⟨lk, ih⟩ := lks_rho hl k (by omega)
    have len := lks_len n l k
    have a := hl (n + k) (by omega)
    have b := hl (2 * n + k) (by omega)
    have fa := fo_ok lk a.1 (by rw [len]; omega)
    have fb := fo_ok lk b.1 (by rw [len]; omega)
    have ea := ih _ a.1 a.2
    have eb := ih _ b.1 b.2
    have key : ∀ x : Int, 0 ≤ x → x < 4 * (n : Int) → fo (lks n l (k + 1)) x = rho n l (k + 1) x := fun x h0 h1 => by
      show fo ((lks n l k).set _ _) x = (if rho n l k x = max (rho n l k (l.getD (n + k) 0)) (rho n l k (l.getD (2 * n + k) 0)) then min (rho n l k (l.getD (n + k) 0)) (rho n l k (l.getD (2 * n + k) 0)) else rho n l k x)
      rw [← ea, ← eb, ← ih x h0 h1]
      rcases Int.le_total (fo (lks n l k) (l.getD (n + k) 0)) (fo (lks n l k) (l.getD (2 * n + k) 0)) with h | h
      · rw [Int.max_eq_right h, Int.min_eq_left h]
        exact fo_set lk fa.1 h (by rw [len]; omega) fb.2.2 fa.2.2 (4 * n) x h0 (by rw [len]; omega) (by omega)
      · rw [Int.max_eq_left h, Int.min_eq_right h]
        exact fo_set lk fb.1 h (by rw [len]; omega) fa.2.2 fb.2.2 (4 * n) x h0 (by rw [len]; omega) (by omega)
    refine ⟨?_, key⟩
    show LK ((lks n l k).set _ _)
    rcases Int.le_total (fo (lks n l k) (l.getD (n + k) 0)) (fo (lks n l k) (l.getD (2 * n + k) 0)) with h | h
    · rw [Int.max_eq_right h, Int.min_eq_left h]; exact set_LK lk fa.1 h
    · rw [Int.max_eq_left h, Int.min_eq_right h]; exact set_LK lk fb.1 h
end Fig

/-! M8: the first power that comes again. -/
namespace Fig
theorem idx_atG {α : Type} [BEq α] [LawfulBEq α] {l : List α} {x : α} (h : x ∈ l) : l[l.idxOf x]? = some x := by
  have := List.idxOf_lt_length_iff.mpr h
  rw [List.getElem?_eq_getElem this, List.getElem_idxOf]
theorem nodup_getG {α : Type} {l : List α} (nd : l.Nodup) {i j : Nat} (hi : i < l.length) (e : l[i]? = l[j]?) : i = j := by
  rw [List.getElem?_eq_getElem hi] at e
  have hj := (List.getElem?_eq_some_iff.mp e.symm).1
  rw [List.getElem?_eq_getElem hj] at e
  exact (List.getElem_inj (h₀ := hi) (h₁ := hj) nd).mp (Option.some.inj e)
theorem idx_isG {α : Type} [BEq α] [LawfulBEq α] {l : List α} (nd : l.Nodup) {i : Nat} {x : α} (e : l[i]? = some x) : l.idxOf x = i := by
  have m := List.mem_of_getElem? e
  exact nodup_getG nd (List.idxOf_lt_length_iff.mpr m) ((idx_atG m).trans e.symm)
/-- m: how many powers differ; f: which of them comes again -/
structure Rd (n : Nat) (fig : List Int) (m f : Nat) : Prop where
  lt : f < m
  le : m ≤ 36
  eq : pw n fig m = pw n fig f
  ne : ∀ i j, i < j → j < m → pw n fig i ≠ pw n fig j
def pws (n : Nat) (fig : List Int) (m : Nat) : List (List Int) := (List.range m).map (pw n fig)
theorem pws_succ (n : Nat) (fig : List Int) (m : Nat) : pws n fig (m + 1) = pws n fig m ++ [pw n fig m] := by
  unfold pws
  rw [List.range_succ, List.map_append]; rfl
theorem pws_len (n : Nat) (fig : List Int) (m : Nat) : (pws n fig m).length = m := by simp [pws]
theorem pws_mem {n : Nat} {fig : List Int} {m : Nat} {x : List Int} : x ∈ pws n fig m ↔ ∃ i, i < m ∧ pw n fig i = x := by
  unfold pws
  rw [List.mem_map]
  exact ⟨fun ⟨i, hi, e⟩ => ⟨i, List.mem_range.mp hi, e⟩, fun ⟨i, hi, e⟩ => ⟨i, List.mem_range.mpr hi, e⟩⟩
theorem pws_get {n : Nat} {fig : List Int} {m i : Nat} (h : i < m) : (pws n fig m)[i]? = some (pw n fig i) := by
  unfold pws
  rw [List.getElem?_map, List.getElem?_range h]; rfl
theorem rd_ex {n : Nat} (hn : n ≤ 5) {fig : List Int} (f : Fg n fig) : ∃ m f, Rd n fig m f := by
  have key : ∀ M, (∃ m f, Rd n fig m f) ∨ (37 < M ∨ ∀ i j, i < j → j < M → pw n fig i ≠ pw n fig j) := by
    intro M
    induction M with
    | zero => exact .inr (.inr fun i j _ h => by omega)
    | succ M ih =>
      rcases ih with h | h
      · exact .inl h
      · rcases h with h | h
        · exact .inr (.inl (by omega))
        · by_cases q : M ≤ 36
          · by_cases e : ∃ i, i < M ∧ pw n fig M = pw n fig i
            · obtain ⟨i, hi, e⟩ := e
              exact .inl ⟨M, i, hi, q, e, h⟩
            · refine .inr (.inr fun i j hij hj => ?_)
              by_cases hj2 : j < M
              · exact h i j hij hj2
              · have : j = M := by omega
                subst this
                intro e2
                exact e ⟨i, hij, e2.symm⟩
          · exact .inr (.inl (by omega))
  obtain ⟨K, q, hq, hK, e⟩ := pw_round hn f
  rcases key 37 with h | h
  · exact h
  · rcases h with h | h
    · omega
    · exact (h K (K + q) (by omega) (by omega) e.symm).elim
theorem Rd.nodup {n : Nat} {fig : List Int} {m f : Nat} (r : Rd n fig m f) : (pws n fig m).Nodup := by
  rw [List.nodup_iff_pairwise_ne]
  unfold pws
  rw [List.pairwise_map]
  refine List.Pairwise.imp_of_mem (R := fun a b => a < b) (fun {a b} ha hb h => ?_) List.pairwise_lt_range
  exact r.ne a b h (List.mem_range.mp hb)
theorem Rd.idx {n : Nat} {fig : List Int} {m f : Nat} (r : Rd n fig m f) : (pws n fig m).idxOf (pw n fig m) = f := by
  rw [r.eq]
  exact idx_isG (l := pws n fig m) r.nodup (pws_get (n := n) (fig := fig) r.lt)
/-- which of the powers that differ a power is -/
def spot (m f k : Nat) : Nat := if k < m then k else f + (k - f) % (m - f)
theorem Rd.per {n : Nat} {fig : List Int} {m f : Nat} (r : Rd n fig m f) : ∀ k, pw n fig (f + k + (m - f)) = pw n fig (f + k)
  | 0 => by
    have := r.lt
    rw [show f + 0 + (m - f) = m by omega, r.eq]; rfl
  | k + 1 => by
    have ih := r.per k
    rw [show f + (k + 1) + (m - f) = (f + k + (m - f)) + 1 by omega, show f + (k + 1) = (f + k) + 1 by omega]
    show lup n (pw n fig (f + k + (m - f))) fig = lup n (pw n fig (f + k)) fig
    rw [ih]
theorem Rd.pers {n : Nat} {fig : List Int} {m f : Nat} (r : Rd n fig m f) (k : Nat) : ∀ j, pw n fig (f + k + j * (m - f)) = pw n fig (f + k)
  | 0 => by simp
  | j + 1 => by
    rw [show f + k + (j + 1) * (m - f) = f + (k + j * (m - f)) + (m - f) by rw [Nat.succ_mul]; omega, r.per, ← r.pers k j, show f + (k + j * (m - f)) = f + k + j * (m - f) by omega]
theorem Rd.spot_lt {n : Nat} {fig : List Int} {m f : Nat} (r : Rd n fig m f) (k : Nat) : spot m f k < m := by
  have := r.lt
  unfold spot
  split
  · assumption
  · have := Nat.mod_lt (k - f) (show 0 < m - f by omega)
    omega
theorem Rd.at_spot {n : Nat} {fig : List Int} {m f : Nat} (r : Rd n fig m f) (k : Nat) : pw n fig (spot m f k) = pw n fig k := by
  have := r.lt
  unfold spot
  split
  · rfl
  · have e := Nat.mod_add_div (k - f) (m - f)
    rw [← r.pers ((k - f) % (m - f)) ((k - f) / (m - f))]
    congr 1
    rw [Nat.mul_comm] at e
    omega
end Fig

/-! M9: figures by colours; three figures upon one another. -/
namespace Fig
section
variable {n : Nat}
/-- the colour of a point -/
def vl (t b : Fin n → Prop) : Pt n → Prop
  | .inl i => t i
  | .inr i => b i
/-- a figure lets two colourings -/
def Lets (E : Rl (Pt n)) (t b : Fin n → Prop) : Prop := ∀ x y, E x y → (vl t b x ↔ vl t b y)
theorem lets_eq {E : Rl (Pt n)} (hE : Eqv E) (x y : Pt n) : E x y ↔ ∀ t b, Lets E t b → (vl t b x ↔ vl t b y) := by
  refine ⟨fun h t b l => l x y h, fun h => ?_⟩
  have v : ∀ z, vl (fun i => E x (.inl i)) (fun i => E x (.inr i)) z ↔ E x z := fun z => by cases z <;> exact Iff.rfl
  have := h (fun i => E x (.inl i)) (fun i => E x (.inr i)) fun a c e => by
    rw [v, v]
    exact ⟨fun q => hE.trans q e, fun q => hE.trans q (hE.symm e)⟩
  rw [v, v] at this
  exact this.mp (hE.refl x)
theorem lets_up {E F : Rl (Pt n)} (hE : Eqv E) (t b : Fin n → Prop) : Lets (up E F) t b ↔ ∃ m, Lets E t m ∧ Lets F m b := by
  constructor
  · intro h
    have hv : ∀ z z' : Pt n, Cl (Three E F) (out z) (out z') → (vl t b z ↔ vl t b z') := fun z z' q => h z z' q
    refine ⟨fun i => ∃ z : Pt n, Cl (Three E F) (.inr (.inl i)) (out z) ∧ vl t b z, fun x y e => ?_, fun x y e => ?_⟩
    · match x, y, e with
      | .inl i, .inl j, e => exact hv (.inl i) (.inl j) (.one (.tt e))
      | .inl i, .inr j, e =>
        exact ⟨fun q => ⟨.inl i, .symm (.one (.tm e)), q⟩, fun ⟨z, c, q⟩ => (hv z (.inl i) (.trans (.symm c) (.symm (.one (.tm e))))).mp q⟩
      | .inr i, .inr j, e =>
        exact ⟨fun ⟨z, c, q⟩ => ⟨z, .trans (.symm (.one (.mm e))) c, q⟩, fun ⟨z, c, q⟩ => ⟨z, .trans (.one (.mm e)) c, q⟩⟩
      | .inr i, .inl j, e =>
        have e := hE.symm e
        exact ⟨fun ⟨z, c, q⟩ => (hv z (.inl j) (.trans (.symm c) (.symm (.one (.tm e))))).mp q, fun q => ⟨.inl j, .symm (.one (.tm e)), q⟩⟩
    · match x, y, e with
      | .inl i, .inl j, e =>
        exact ⟨fun ⟨z, c, q⟩ => ⟨z, .trans (.symm (.one (.fig e))) c, q⟩, fun ⟨z, c, q⟩ => ⟨z, .trans (.one (.fig e)) c, q⟩⟩
      | .inl i, .inr j, e =>
        exact ⟨fun ⟨z, c, q⟩ => (hv z (.inr j) (.trans (.symm c) (.one (.fig e)))).mp q, fun q => ⟨.inr j, .one (.fig e), q⟩⟩
      | .inr i, .inl j, e =>
        exact ⟨fun q => ⟨.inr i, .symm (.one (.fig e)), q⟩, fun ⟨z, c, q⟩ => (hv z (.inr i) (.trans (.symm c) (.symm (.one (.fig e))))).mp q⟩
      | .inr i, .inr j, e => exact hv (.inr i) (.inr j) (.one (.fig e))
  · rintro ⟨m, h1, h2⟩ x y q
    let w : (Fin n ⊕ Pt n) → Prop := fun
      | .inl i => t i
      | .inr z => vl m b z
    have ho : ∀ z : Pt n, w (out z) = vl t b z := fun z => by cases z <;> rfl
    have key : ∀ p p', Cl (Three E F) p p' → (w p ↔ w p') := fun p p' c => by
      refine Cl.least (s := fun p p' => w p ↔ w p') ?_ (fun _ => Iff.rfl) (fun _ _ h => h.symm) (fun _ _ _ h k => h.trans k) c
      intro a c s
      cases s with
      | tt e => exact h1 _ _ e
      | tm e => exact h1 _ _ e
      | mm e => exact h1 _ _ e
      | fig e => exact h2 _ _ e
    have := key _ _ q
    rw [ho, ho] at this
    exact this
theorem up_assoc {E F G : Rl (Pt n)} (hE : Eqv E) (hF : Eqv F) (x y : Pt n) : up (up E F) G x y ↔ up E (up F G) x y := by
  rw [lets_eq (up_eqv _ _), lets_eq (up_eqv _ _)]
  have : ∀ t b, Lets (up (up E F) G) t b ↔ Lets (up E (up F G)) t b := fun t b => by
    rw [lets_up (up_eqv _ _), lets_up hE]
    constructor
    · rintro ⟨m, h1, h2⟩
      obtain ⟨k, h3, h4⟩ := (lets_up hE t m).mp h1
      exact ⟨k, h3, (lets_up hF k b).mpr ⟨m, h4, h2⟩⟩
    · rintro ⟨k, h3, h4⟩
      obtain ⟨m, h5, h6⟩ := (lets_up hF k b).mp h4
      exact ⟨m, (lets_up hE t m).mpr ⟨k, h3, h5⟩, h6⟩
  exact ⟨fun h t b l => h t b ((this t b).mpr l), fun h t b l => h t b ((this t b).mp l)⟩
theorem lets_E0 (t b : Fin n → Prop) : Lets E0 t b ↔ ∀ i, t i ↔ b i := by
  constructor
  · intro h i
    exact h (.inl i) (.inr i) rfl
  · intro h x y e
    match x, y, e with
    | .inl i, .inl j, e => have e : i = j := e; subst e; exact Iff.rfl
    | .inl i, .inr j, e => have e : i = j := e; subst e; exact h i
    | .inr i, .inl j, e => have e : i = j := e; subst e; exact (h i).symm
    | .inr i, .inr j, e => have e : i = j := e; subst e; exact Iff.rfl
theorem up_E0 {E : Rl (Pt n)} (hE : Eqv E) (x y : Pt n) : up E E0 x y ↔ E x y := by
  rw [lets_eq (up_eqv _ _), lets_eq hE]
  have : ∀ t b, Lets (up E E0) t b ↔ Lets E t b := fun t b => by
    rw [lets_up hE]
    constructor
    · rintro ⟨m, h1, h2⟩
      have : m = b := funext fun i => propext ((lets_E0 m b).mp h2 i)
      subst this
      exact h1
    · exact fun h => ⟨b, h, (lets_E0 b b).mpr fun _ => Iff.rfl⟩
  exact ⟨fun h t b l => h t b ((this t b).mpr l), fun h t b l => h t b ((this t b).mp l)⟩
theorem up_0E {E : Rl (Pt n)} (hE : Eqv E) (x y : Pt n) : up E0 E x y ↔ E x y := by
  rw [lets_eq (up_eqv _ _), lets_eq hE]
  have : ∀ t b, Lets (up E0 E) t b ↔ Lets E t b := fun t b => by
    rw [lets_up E0_eqv]
    constructor
    · rintro ⟨m, h1, h2⟩
      have : t = m := funext fun i => propext ((lets_E0 t m).mp h1 i)
      subst this
      exact h2
    · exact fun h => ⟨t, (lets_E0 t t).mpr fun _ => Iff.rfl, h⟩
  exact ⟨fun h t b l => h t b ((this t b).mpr l), fun h t b l => h t b ((this t b).mp l)⟩
theorem up_congr2 {E E' A A' : Rl (Pt n)} (h : ∀ x y, E x y ↔ E' x y) (k : ∀ x y, A x y ↔ A' x y) (x y : Pt n) : up E A x y ↔ up E' A' x y := by
  have e1 : E = E' := funext fun x => funext fun y => propext (h x y)
  have e2 : A = A' := funext fun x => funext fun y => propext (k x y)
  rw [e1, e2]
theorem fg_eq {l l' : List Int} (f : Fg n l) (f' : Fg n l') (h : ∀ x y : Pt n, kr n l x y ↔ kr n l' x y) : l = l' := nam_eq f.nm f'.nm (keq_of f.len f'.len h)
theorem lup_assoc {a b c : List Int} (fa : Fg n a) (fb : Fg n b) (fc : Fg n c) : lup n (lup n a b) c = lup n a (lup n b c) := by
  refine fg_eq (lup_fg (lup_fg fa fb) fc) (lup_fg fa (lup_fg fb fc)) fun x y => ?_
  rw [lup_kr (lup_fg fa fb) fc, lup_kr fa (lup_fg fb fc), up_congr2 (lup_kr fa fb) (fun _ _ => Iff.rfl), up_congr2 (fun _ _ => Iff.rfl) (lup_kr fb fc)]
  exact up_assoc (kr_eqv a) (kr_eqv b) x y
theorem lup_strt {a : List Int} (fa : Fg n a) : lup n a (strt n) = a := by
  refine fg_eq (lup_fg fa (strt_fg n)) fa fun x y => ?_
  rw [lup_kr fa (strt_fg n), up_congr2 (fun _ _ => Iff.rfl) strt_kr]
  exact up_E0 (kr_eqv a) x y
theorem strt_lup {a : List Int} (fa : Fg n a) : lup n (strt n) a = a := by
  refine fg_eq (lup_fg (strt_fg n) fa) fa fun x y => ?_
  rw [lup_kr (strt_fg n) fa, up_congr2 strt_kr (fun _ _ => Iff.rfl)]
  exact up_0E (kr_eqv a) x y
theorem pw_add {fig : List Int} (f : Fg n fig) (a : Nat) : ∀ b, lup n (pw n fig a) (pw n fig b) = pw n fig (a + b)
  | 0 => lup_strt (pw_fg f a)
  | b + 1 => by
    show lup n (pw n fig a) (lup n (pw n fig b) fig) = lup n (pw n fig (a + b)) fig
    rw [← lup_assoc (pw_fg f a) (pw_fg f b) f, pw_add f a b]
end
end Fig

/-! M10: how many unlike things a list has. -/
namespace Fig
section
variable {α β : Type} [DecidableEq α] [DecidableEq β]
def dn : List α → Nat
  | [] => 0
  | x :: xs => if x ∈ xs then dn xs else dn xs + 1
theorem dn_cons_in {x : α} {xs : List α} (h : x ∈ xs) : dn (x :: xs) = dn xs := by rw [dn, if_pos h]
theorem dn_cons_no {x : α} {xs : List α} (h : x ∉ xs) : dn (x :: xs) = dn xs + 1 := by rw [dn, if_neg h]
theorem dn_map_ker {γ : Type} {f : γ → α} {g : γ → β} : ∀ {L : List γ}, (∀ x ∈ L, ∀ y ∈ L, f x = f y ↔ g x = g y) → dn (L.map f) = dn (L.map g)
  | [], _ => rfl
  | x :: xs, h => by
    have ih := dn_map_ker (L := xs) fun y hy z hz => h y (List.mem_cons_of_mem _ hy) z (List.mem_cons_of_mem _ hz)
    rw [List.map_cons, List.map_cons]
    by_cases m : f x ∈ xs.map f
    · have m2 : g x ∈ xs.map g := by
        obtain ⟨y, hy, e⟩ := List.mem_map.mp m
        exact List.mem_map.mpr ⟨y, hy, (h y (List.mem_cons_of_mem _ hy) x List.mem_cons_self).mp e⟩
      rw [dn_cons_in m, dn_cons_in m2, ih]
    · have m2 : g x ∉ xs.map g := fun m2 => by
        obtain ⟨y, hy, e⟩ := List.mem_map.mp m2
        exact m (List.mem_map.mpr ⟨y, hy, (h y (List.mem_cons_of_mem _ hy) x List.mem_cons_self).mpr e⟩)
      rw [dn_cons_no m, dn_cons_no m2, ih]
theorem dn_app : ∀ {X Y : List α}, (∀ x ∈ X, x ∉ Y) → dn (X ++ Y) = dn X + dn Y
  | [], Y, _ => by rw [List.nil_append, show dn ([] : List α) = 0 from rfl, Nat.zero_add]
  | x :: X, Y, h => by
    have ih := dn_app (X := X) (Y := Y) fun y hy => h y (List.mem_cons_of_mem _ hy)
    rw [List.cons_append]
    by_cases m : x ∈ X
    · rw [dn_cons_in m, dn_cons_in (List.mem_append_left _ m), ih]
    · have : x ∉ X ++ Y := fun q => by
        rcases List.mem_append.mp q with q | q
        · exact m q
        · exact h x List.mem_cons_self q
      rw [dn_cons_no m, dn_cons_no this, ih]; omega
theorem dn_drop (x : α) : ∀ {Y : List α}, dn Y = dn (Y.filter fun y => !decide (y = x)) + (if x ∈ Y then 1 else 0)
  | [] => rfl
  | y :: Y => by
    have ih := dn_drop x (Y := Y)
    by_cases e : y = x
    · subst e
      rw [List.filter_cons_of_neg (by simp), if_pos List.mem_cons_self]
      by_cases m : y ∈ Y
      · rw [dn_cons_in m, ih, if_pos m]
      · rw [dn_cons_no m, ih, if_neg m]
    · rw [List.filter_cons_of_pos (by simp [e])]
      have e3 : (x ∈ y :: Y) ↔ x ∈ Y := by
        rw [List.mem_cons]
        exact ⟨fun h => h.elim (fun h => (e h.symm).elim) id, .inr⟩
      have e4 : (if x ∈ y :: Y then 1 else 0) = (if x ∈ Y then 1 else 0) := by
        by_cases q : x ∈ Y
        · rw [if_pos q, if_pos (e3.mpr q)]
        · rw [if_neg q, if_neg (fun z => q (e3.mp z))]
      rw [e4]
      by_cases m : y ∈ Y
      · rw [dn_cons_in m, dn_cons_in (List.mem_filter.mpr ⟨m, by simp [e]⟩)]
        exact ih
      · have : y ∉ Y.filter fun y => !decide (y = x) := fun q => m (List.mem_filter.mp q).1
        rw [dn_cons_no m, dn_cons_no this]
        omega
theorem dn_mono : ∀ {X Y : List α}, (∀ x ∈ X, x ∈ Y) → dn X ≤ dn Y
  | [], _, _ => Nat.zero_le _
  | x :: X, Y, h => by
    by_cases m : x ∈ X
    · rw [dn_cons_in m]; exact dn_mono fun y hy => h y (List.mem_cons_of_mem _ hy)
    · rw [dn_cons_no m, dn_drop x (Y := Y), if_pos (h x List.mem_cons_self)]
      have := dn_mono (X := X) (Y := Y.filter fun y => !decide (y = x)) fun y hy => List.mem_filter.mpr ⟨h y (List.mem_cons_of_mem _ hy), by
        have : y ≠ x := fun e => m (e ▸ hy)
        simp [this]⟩
      omega
theorem dn_same {X Y : List α} (h : ∀ x, x ∈ X ↔ x ∈ Y) : dn X = dn Y := Nat.le_antisymm (dn_mono fun x m => (h x).mp m) (dn_mono fun x m => (h x).mpr m)
theorem dn_nodup : ∀ {X : List α}, X.Nodup → dn X = X.length
  | [], _ => rfl
  | x :: X, h => by
    have h := List.nodup_cons.mp h
    rw [dn_cons_no h.1, dn_nodup h.2, List.length_cons]
theorem dn_le : ∀ X : List α, dn X ≤ X.length
  | [] => Nat.le_refl _
  | x :: X => by
    have := dn_le X
    rw [dn]
    rw [List.length_cons]
    split <;> omega
end
/-- labels of an equality -/
theorem labels {α : Type} {R : Rl α} (hR : Eqv R) (U : List α) (hU : ∀ x, x ∈ U) : ∃ lab : α → Nat, ∀ x y, lab x = lab y ↔ R x y := by
  classical
  refine ⟨fun x => U.findIdx fun y => decide (R y x), fun x y => ⟨fun e => ?_, fun r => ?_⟩⟩
  · have hx : U.findIdx (fun z => decide (R z x)) < U.length := List.findIdx_lt_length_of_exists ⟨x, hU x, decide_eq_true (hR.refl x)⟩
    have hy : U.findIdx (fun z => decide (R z y)) < U.length := List.findIdx_lt_length_of_exists ⟨y, hU y, decide_eq_true (hR.refl y)⟩
    have e : U.findIdx (fun z => decide (R z x)) = U.findIdx (fun z => decide (R z y)) := e
    have p := of_decide_eq_true (List.findIdx_getElem (w := hx))
    have q := of_decide_eq_true (List.findIdx_getElem (w := hy))
    have : U[U.findIdx (fun z => decide (R z x))] = U[U.findIdx (fun z => decide (R z y))] := by congr 1
    rw [this] at p
    exact hR.trans (hR.symm p) q
  · show U.findIdx _ = U.findIdx _
    congr 1
    funext z
    exact decide_eq_decide.mpr ⟨fun h => hR.trans h r, fun h => hR.trans h (hR.symm r)⟩
end Fig

/-! M11: what is left over, by classes; three figures. -/
namespace Fig
section
variable {n : Nat}
/-- four rows: top, two between, bottom -/
inductive Four (E F G : Rl (Pt n)) : (Fin n ⊕ (Fin n ⊕ Pt n)) → (Fin n ⊕ (Fin n ⊕ Pt n)) → Prop
  | e {x y : Pt n} : E x y → Four E F G (match x with | .inl i => .inl i | .inr i => .inr (.inl i)) (match y with | .inl i => .inl i | .inr i => .inr (.inl i))
  | f {x y : Pt n} : F x y → Four E F G (.inr (match x with | .inl i => .inl i | .inr i => .inr (.inl i))) (.inr (match y with | .inl i => .inl i | .inr i => .inr (.inl i)))
  | g {x y : Pt n} : G x y → Four E F G (.inr (.inr x)) (.inr (.inr y))
abbrev P4 (n : Nat) := Fin n ⊕ (Fin n ⊕ Pt n)
abbrev P3 (n : Nat) := Fin n ⊕ Pt n
def m1 (i : Fin n) : P4 n := .inr (.inl i)
def m2 (i : Fin n) : P4 n := .inr (.inr (.inl i))
def mid (i : Fin n) : P3 n := .inr (.inl i)
def out4 : Pt n → P4 n
  | .inl i => .inl i
  | .inr i => .inr (.inr (.inr i))
/-- the upper three rows, the lower three, the outer three -/
def hi3 : P3 n → P4 n
  | .inl i => .inl i
  | .inr (.inl i) => .inr (.inl i)
  | .inr (.inr i) => .inr (.inr (.inl i))
def lo3 : P3 n → P4 n := .inr
def k2 : P3 n → P4 n
  | .inl i => .inl i
  | .inr x => .inr (.inr x)
def k1 : P3 n → P4 n
  | .inl i => .inl i
  | .inr (.inl i) => .inr (.inl i)
  | .inr (.inr i) => .inr (.inr (.inr i))
variable {E F G : Rl (Pt n)}
theorem hi_four (p q : P3 n) (h : Cl (Three E F) p q) : Cl (Four E F G) (hi3 p) (hi3 q) := by
  refine Cl.least (s := fun p q => Cl (Four E F G) (hi3 p) (hi3 q)) ?_ (fun _ => .refl _) (fun _ _ => .symm) (fun _ _ _ => .trans) h
  intro a b s
  cases s with
  | tt e => exact .one (.e e)
  | tm e => exact .one (.e e)
  | mm e => exact .one (.e e)
  | @fig x y e => cases x <;> cases y <;> exact .one (.f e)
theorem lo_four (p q : P3 n) (h : Cl (Three F G) p q) : Cl (Four E F G) (lo3 p) (lo3 q) := by
  refine Cl.least (s := fun p q => Cl (Four E F G) (lo3 p) (lo3 q)) ?_ (fun _ => .refl _) (fun _ _ => .symm) (fun _ _ _ => .trans) h
  intro a b s
  cases s with
  | tt e => exact .one (.f e)
  | tm e => exact .one (.f e)
  | mm e => exact .one (.f e)
  | fig e => exact .one (.g e)
theorem k2_four (p q : P3 n) (h : Cl (Three (up E F) G) p q) : Cl (Four E F G) (k2 p) (k2 q) := by
  refine Cl.least (s := fun p q => Cl (Four E F G) (k2 p) (k2 q)) ?_ (fun _ => .refl _) (fun _ _ => .symm) (fun _ _ _ => .trans) h
  intro a b s
  cases s with
  | tt e => exact hi_four _ _ e
  | tm e => exact hi_four _ _ e
  | mm e => exact hi_four _ _ e
  | fig e => exact .one (.g e)
theorem k1_four (p q : P3 n) (h : Cl (Three E (up F G)) p q) : Cl (Four E F G) (k1 p) (k1 q) := by
  refine Cl.least (s := fun p q => Cl (Four E F G) (k1 p) (k1 q)) ?_ (fun _ => .refl _) (fun _ _ => .symm) (fun _ _ _ => .trans) h
  intro a b s
  cases s with
  | tt e => exact .one (.e e)
  | tm e => exact .one (.e e)
  | mm e => exact .one (.e e)
  | @fig x y e =>
    cases x <;> cases y <;> exact lo_four _ _ e
/-- a colouring of four rows -/
theorem four_col {w : P4 n → Prop} {t a b c : Fin n → Prop} (ht : ∀ i, w (.inl i) ↔ t i) (ha : ∀ i, w (m1 i) ↔ a i) (hb : ∀ i, w (m2 i) ↔ b i) (hc : ∀ i, w (.inr (.inr (.inr i))) ↔ c i)
    (h1 : Lets E t a) (h2 : Lets F a b) (h3 : Lets G b c) {p q : P4 n} (h : Cl (Four E F G) p q) : w p ↔ w q := by
  refine Cl.least (s := fun p q => w p ↔ w q) ?_ (fun _ => Iff.rfl) (fun _ _ h => h.symm) (fun _ _ _ h k => h.trans k) h
  intro x y s
  cases s with
  | @e x y r =>
    have := h1 x y r
    cases x <;> cases y
    · exact (ht _).trans (this.trans (ht _).symm)
    · exact (ht _).trans (this.trans (ha _).symm)
    · exact (ha _).trans (this.trans (ht _).symm)
    · exact (ha _).trans (this.trans (ha _).symm)
  | @f x y r =>
    have := h2 x y r
    cases x <;> cases y
    · exact (ha _).trans (this.trans (ha _).symm)
    · exact (ha _).trans (this.trans (hb _).symm)
    · exact (hb _).trans (this.trans (ha _).symm)
    · exact (hb _).trans (this.trans (hb _).symm)
  | @g x y r =>
    have := h3 x y r
    cases x <;> cases y
    · exact (hb _).trans (this.trans (hb _).symm)
    · exact (hb _).trans (this.trans (hc _).symm)
    · exact (hc _).trans (this.trans (hb _).symm)
    · exact (hc _).trans (this.trans (hc _).symm)
theorem four_k2 (hE : Eqv E) (p q : P3 n) (h : Cl (Four E F G) (k2 p) (k2 q)) : Cl (Three (up E F) G) p q := by
  have l1 : Lets (up E F) (fun i => Cl (Three (up E F) G) p (.inl i)) (fun i => Cl (Three (up E F) G) p (.inr (.inl i))) := fun x y r => by
    have key : ∀ a b, Three (up E F) G a b → (Cl (Three (up E F) G) p a ↔ Cl (Three (up E F) G) p b) := fun a b s => ⟨fun h => .trans h (.one s), fun h => .trans h (.symm (.one s))⟩
    match x, y, r with
    | .inl i, .inl j, r => exact key _ _ (.tt r)
    | .inl i, .inr j, r => exact key _ _ (.tm r)
    | .inr i, .inl j, r => exact (key _ _ (.tm (.symm r))).symm
    | .inr i, .inr j, r => exact key _ _ (.mm r)
  have l2 : Lets G (fun i => Cl (Three (up E F) G) p (.inr (.inl i))) (fun i => Cl (Three (up E F) G) p (.inr (.inr i))) := fun x y r => by
    have key : Cl (Three (up E F) G) p (.inr x) ↔ Cl (Three (up E F) G) p (.inr y) := ⟨fun h => .trans h (.one (.fig r)), fun h => .trans h (.symm (.one (.fig r)))⟩
    cases x <;> cases y <;> exact key
  obtain ⟨a, la, lb⟩ := (lets_up hE _ _).mp l1
  let w : P4 n → Prop := fun
    | .inl i => Cl (Three (up E F) G) p (.inl i)
    | .inr (.inl i) => a i
    | .inr (.inr x) => Cl (Three (up E F) G) p (.inr x)
  have wk : ∀ z : P3 n, w (k2 z) ↔ Cl (Three (up E F) G) p z := fun z => by
    match z with
    | .inl i => exact Iff.rfl
    | .inr x => exact Iff.rfl
  have := four_col (w := w) (fun _ => Iff.rfl) (fun _ => Iff.rfl) (fun _ => Iff.rfl) (fun _ => Iff.rfl) la lb l2 h
  exact (wk q).mp (this.mp ((wk p).mpr (.refl p)))
theorem four_k1 (hF : Eqv F) (p q : P3 n) (h : Cl (Four E F G) (k1 p) (k1 q)) (hE : Eqv E) : Cl (Three E (up F G)) p q := by
  have l1 : Lets (up F G) (fun i => Cl (Three E (up F G)) p (.inr (.inl i))) (fun i => Cl (Three E (up F G)) p (.inr (.inr i))) := fun x y r => by
    have key : Cl (Three E (up F G)) p (.inr x) ↔ Cl (Three E (up F G)) p (.inr y) := ⟨fun h => .trans h (.one (.fig r)), fun h => .trans h (.symm (.one (.fig r)))⟩
    cases x <;> cases y <;> exact key
  have l2 : Lets E (fun i => Cl (Three E (up F G)) p (.inl i)) (fun i => Cl (Three E (up F G)) p (.inr (.inl i))) := fun x y r => by
    have key : ∀ a b, Three E (up F G) a b → (Cl (Three E (up F G)) p a ↔ Cl (Three E (up F G)) p b) := fun a b s => ⟨fun h => .trans h (.one s), fun h => .trans h (.symm (.one s))⟩
    match x, y, r with
    | .inl i, .inl j, r => exact key _ _ (.tt r)
    | .inl i, .inr j, r => exact key _ _ (.tm r)
    | .inr i, .inl j, r => exact (key _ _ (.tm (hE.symm r))).symm
    | .inr i, .inr j, r => exact key _ _ (.mm r)
  obtain ⟨a, la, lb⟩ := (lets_up hF _ _).mp l1
  let w : P4 n → Prop := fun
    | .inl i => Cl (Three E (up F G)) p (.inl i)
    | .inr (.inl i) => Cl (Three E (up F G)) p (.inr (.inl i))
    | .inr (.inr (.inl i)) => a i
    | .inr (.inr (.inr i)) => Cl (Three E (up F G)) p (.inr (.inr i))
  have wk : ∀ z : P3 n, w (k1 z) ↔ Cl (Three E (up F G)) p z := fun z => by
    match z with
    | .inl i => exact Iff.rfl
    | .inr (.inl i) => exact Iff.rfl
    | .inr (.inr i) => exact Iff.rfl
  have := four_col (w := w) (fun _ => Iff.rfl) (fun _ => Iff.rfl) (fun _ => Iff.rfl) (fun _ => Iff.rfl) l2 la lb h
  exact (wk q).mp (this.mp ((wk p).mpr (.refl p)))
/-- between alone -/
def Free (E F : Rl (Pt n)) (i : Fin n) : Prop := ∀ z : Pt n, ¬ Cl (Three E F) (mid i) (out z)
theorem free_hi (hE : Eqv E) {i : Fin n} (hf : Free E F i) {q : P4 n} (h : Cl (Four E F G) (m1 i) q) : ∃ j, q = m1 j ∧ Cl (Three E F) (mid i) (mid j) := by
  have key : ∀ a b, Cl (Four E F G) a b → ((∃ j, a = m1 j ∧ Cl (Three E F) (mid i) (mid j)) ↔ (∃ j, b = m1 j ∧ Cl (Three E F) (mid i) (mid j))) := fun a b h => by
    refine Cl.least (s := fun a b => (∃ j, a = m1 j ∧ Cl (Three E F) (mid i) (mid j)) ↔ (∃ j, b = m1 j ∧ Cl (Three E F) (mid i) (mid j))) ?_ (fun _ => Iff.rfl) (fun _ _ h => h.symm) (fun _ _ _ h k => h.trans k) h
    intro a b s
    cases s with
    | @e x y r =>
      match x, y, r with
      | .inl u, .inl v, r => exact ⟨fun ⟨j, e, _⟩ => (by cases e), fun ⟨j, e, _⟩ => by cases e⟩
      | .inl u, .inr v, r => exact ⟨fun ⟨j, e, _⟩ => (by cases e), fun ⟨j, e, c⟩ => by cases e; exact (hf (.inl u) (.trans c (.symm (.one (.tm r))))).elim⟩
      | .inr u, .inl v, r => exact ⟨fun ⟨j, e, c⟩ => by cases e; exact (hf (.inl v) (.trans c (.symm (.one (.tm (hE.symm r)))))).elim, fun ⟨j, e, _⟩ => by cases e⟩
      | .inr u, .inr v, r => exact ⟨fun ⟨j, e, c⟩ => by cases e; exact ⟨v, rfl, .trans c (.one (.mm r))⟩, fun ⟨j, e, c⟩ => by cases e; exact ⟨u, rfl, .trans c (.symm (.one (.mm r)))⟩⟩
    | @f x y r =>
      match x, y, r with
      | .inl u, .inl v, r => exact ⟨fun ⟨j, e, c⟩ => by cases e; exact ⟨v, rfl, .trans c (.one (.fig r))⟩, fun ⟨j, e, c⟩ => by cases e; exact ⟨u, rfl, .trans c (.symm (.one (.fig r)))⟩⟩
      | .inl u, .inr v, r => exact ⟨fun ⟨j, e, c⟩ => by cases e; exact (hf (.inr v) (.trans c (.one (.fig r)))).elim, fun ⟨j, e, _⟩ => by cases e⟩
      | .inr u, .inl v, r => exact ⟨fun ⟨j, e, _⟩ => (by cases e), fun ⟨j, e, c⟩ => by cases e; exact (hf (.inr u) (.trans c (.symm (.one (.fig r))))).elim⟩
      | .inr u, .inr v, r => exact ⟨fun ⟨j, e, _⟩ => (by cases e), fun ⟨j, e, _⟩ => by cases e⟩
    | g r => exact ⟨fun ⟨j, e, _⟩ => (by cases e), fun ⟨j, e, _⟩ => by cases e⟩
  exact (key _ _ h).mp ⟨i, rfl, .refl _⟩
theorem free_lo (hF : Eqv F) {i : Fin n} (hf : Free F G i) {q : P4 n} (h : Cl (Four E F G) (m2 i) q) : ∃ j, q = m2 j ∧ Cl (Three F G) (mid i) (mid j) := by
  have key : ∀ a b, Cl (Four E F G) a b → ((∃ j, a = m2 j ∧ Cl (Three F G) (mid i) (mid j)) ↔ (∃ j, b = m2 j ∧ Cl (Three F G) (mid i) (mid j))) := fun a b h => by
    refine Cl.least (s := fun a b => (∃ j, a = m2 j ∧ Cl (Three F G) (mid i) (mid j)) ↔ (∃ j, b = m2 j ∧ Cl (Three F G) (mid i) (mid j))) ?_ (fun _ => Iff.rfl) (fun _ _ h => h.symm) (fun _ _ _ h k => h.trans k) h
    intro a b s
    cases s with
    | @f x y r =>
      match x, y, r with
      | .inl u, .inl v, r => exact ⟨fun ⟨j, e, _⟩ => (by cases e), fun ⟨j, e, _⟩ => by cases e⟩
      | .inl u, .inr v, r => exact ⟨fun ⟨j, e, _⟩ => (by cases e), fun ⟨j, e, c⟩ => by cases e; exact (hf (.inl u) (.trans c (.symm (.one (.tm r))))).elim⟩
      | .inr u, .inl v, r => exact ⟨fun ⟨j, e, c⟩ => by cases e; exact (hf (.inl v) (.trans c (.symm (.one (.tm (hF.symm r)))))).elim, fun ⟨j, e, _⟩ => by cases e⟩
      | .inr u, .inr v, r => exact ⟨fun ⟨j, e, c⟩ => by cases e; exact ⟨v, rfl, .trans c (.one (.mm r))⟩, fun ⟨j, e, c⟩ => by cases e; exact ⟨u, rfl, .trans c (.symm (.one (.mm r)))⟩⟩
    | @g x y r =>
      match x, y, r with
      | .inl u, .inl v, r => exact ⟨fun ⟨j, e, c⟩ => by cases e; exact ⟨v, rfl, .trans c (.one (.fig r))⟩, fun ⟨j, e, c⟩ => by cases e; exact ⟨u, rfl, .trans c (.symm (.one (.fig r)))⟩⟩
      | .inl u, .inr v, r => exact ⟨fun ⟨j, e, c⟩ => by cases e; exact (hf (.inr v) (.trans c (.one (.fig r)))).elim, fun ⟨j, e, _⟩ => by cases e⟩
      | .inr u, .inl v, r => exact ⟨fun ⟨j, e, _⟩ => (by cases e), fun ⟨j, e, c⟩ => by cases e; exact (hf (.inr u) (.trans c (.symm (.one (.fig r))))).elim⟩
      | .inr u, .inr v, r => exact ⟨fun ⟨j, e, _⟩ => (by cases e), fun ⟨j, e, _⟩ => by cases e⟩
    | @e x y r => cases x <;> cases y <;> exact ⟨fun ⟨j, e, _⟩ => (by cases e), fun ⟨j, e, _⟩ => by cases e⟩
  exact (key _ _ h).mp ⟨i, rfl, .refl _⟩
/-- how many classes are between alone, by any labels -/
structure Lf (E F : Rl (Pt n)) (k : Nat) : Prop where
  eq : ∀ (I : List (Fin n)) (lab : Fin n → Nat), (∀ i, i ∈ I ↔ Free E F i) → (∀ i j, Free E F i → Free E F j → (lab i = lab j ↔ Cl (Three E F) (mid i) (mid j))) → dn (I.map lab) = k
theorem lf_add (hE : Eqv E) (hF : Eqv F) (hG : Eqv G) {a b c d : Nat} (h1 : Lf E F a) (h2 : Lf (up E F) G b) (h3 : Lf F G c) (h4 : Lf E (up F G) d) : a + b = c + d := by
  classical
  have fin : ∀ i : Fin n, i ∈ List.finRange n := List.mem_finRange
  obtain ⟨lab, hl⟩ := labels (Cl.eqv (Four E F G)) ((List.finRange n).map (fun i => .inl i) ++ ((List.finRange n).map m1 ++ ((List.finRange n).map m2 ++ (List.finRange n).map fun i => .inr (.inr (.inr i))))) (fun x => by
    simp only [List.mem_append, List.mem_map]
    match x with
    | .inl i => exact .inl ⟨i, fin i, rfl⟩
    | .inr (.inl i) => exact .inr (.inl ⟨i, fin i, rfl⟩)
    | .inr (.inr (.inl i)) => exact .inr (.inr (.inl ⟨i, fin i, rfl⟩))
    | .inr (.inr (.inr i)) => exact .inr (.inr (.inr ⟨i, fin i, rfl⟩)))
  have I : ∀ (p : Fin n → Prop), ∃ I : List (Fin n), ∀ i, i ∈ I ↔ p i := fun p => ⟨(List.finRange n).filter fun i => decide (p i), fun i => by simp [fin]⟩
  obtain ⟨I1, i1⟩ := I (Free E F)
  obtain ⟨I2, i2⟩ := I (Free (up E F) G)
  obtain ⟨I3, i3⟩ := I (Free F G)
  obtain ⟨I4, i4⟩ := I (Free E (up F G))
  have e1 := h1.eq I1 (fun i => lab (m1 i)) i1 fun i j fi fj => by
    rw [hl]
    exact ⟨fun h => by obtain ⟨j', e, c⟩ := free_hi hE fi h; cases e; exact c, fun h => hi_four _ _ h⟩
  have e2 := h2.eq I2 (fun i => lab (m2 i)) i2 fun i j _ _ => by
    rw [hl]
    exact ⟨fun h => four_k2 hE (mid i) (mid j) h, fun h => k2_four _ _ h⟩
  have e3 := h3.eq I3 (fun i => lab (m2 i)) i3 fun i j fi fj => by
    rw [hl]
    exact ⟨fun h => by obtain ⟨j', e, c⟩ := free_lo hF fi h; cases e; exact c, fun h => lo_four _ _ h⟩
  have e4 := h4.eq I4 (fun i => lab (m1 i)) i4 fun i j _ _ => by
    rw [hl]
    exact ⟨fun h => four_k1 hF (mid i) (mid j) h hE, fun h => k1_four _ _ h⟩
  -- a class that has nothing outside
  let Q : Nat → Prop := fun v => (∃ i, v = lab (m1 i) ∨ v = lab (m2 i)) ∧ ∀ z : Pt n, v ≠ lab (out4 z)
  have o2 : ∀ z : Pt n, k2 (out z) = out4 z := fun z => by cases z <;> rfl
  have o1 : ∀ z : Pt n, k1 (out z) = out4 z := fun z => by cases z <;> rfl
  have free2 : ∀ i, Free (up E F) G i ↔ ∀ z : Pt n, lab (m2 i) ≠ lab (out4 z) := fun i => by
    refine ⟨fun h z e => h z (four_k2 hE (mid i) (out z) ?_), fun h z c => h z ?_⟩
    · rw [o2]; exact (hl _ _).mp e
    · have := k2_four (E := E) (F := F) (G := G) _ _ c
      rw [o2] at this
      exact (hl _ _).mpr this
  have free1 : ∀ i, Free E (up F G) i ↔ ∀ z : Pt n, lab (m1 i) ≠ lab (out4 z) := fun i => by
    refine ⟨fun h z e => h z (four_k1 hF (mid i) (out z) ?_ hE), fun h z c => h z ?_⟩
    · rw [o1]; exact (hl _ _).mp e
    · have := k1_four (E := E) (F := F) (G := G) _ _ c
      rw [o1] at this
      exact (hl _ _).mpr this
  have mem12 : ∀ v, v ∈ I1.map (fun i => lab (m1 i)) ++ I2.map (fun i => lab (m2 i)) ↔ Q v := fun v => by
    simp only [List.mem_append, List.mem_map]
    constructor
    · rintro (⟨i, hi, rfl⟩ | ⟨i, hi, rfl⟩)
      · refine ⟨⟨i, .inl rfl⟩, fun z e => ?_⟩
        obtain ⟨j, e2, _⟩ := free_hi hE ((i1 i).mp hi) ((hl _ _).mp e)
        cases z <;> cases e2
      · exact ⟨⟨i, .inr rfl⟩, (free2 i).mp ((i2 i).mp hi)⟩
    · rintro ⟨⟨i, e | e⟩, h⟩
      · by_cases f : Free E F i
        · exact .inl ⟨i, (i1 i).mpr f, e.symm⟩
        · have : ∃ z : Pt n, Cl (Three E F) (mid i) (out z) := Classical.byContradiction fun no => f fun z c => no ⟨z, c⟩
          obtain ⟨z, c⟩ := this
          have c4 := (hl _ _).mpr (hi_four (G := G) _ _ c)
          match z, c4 with
          | .inl j, c4 => exact (h (.inl j) (e.trans c4)).elim
          | .inr j, c4 =>
            refine .inr ⟨j, (i2 j).mpr ((free2 j).mpr fun z ez => h z (e.trans (c4.trans ez))), ?_⟩
            exact (e.trans c4).symm
      · exact .inr ⟨i, (i2 i).mpr ((free2 i).mpr fun z ez => h z (e.trans ez)), e.symm⟩
  have mem34 : ∀ v, v ∈ I3.map (fun i => lab (m2 i)) ++ I4.map (fun i => lab (m1 i)) ↔ Q v := fun v => by
    simp only [List.mem_append, List.mem_map]
    constructor
    · rintro (⟨i, hi, rfl⟩ | ⟨i, hi, rfl⟩)
      · refine ⟨⟨i, .inr rfl⟩, fun z e => ?_⟩
        obtain ⟨j, e2, _⟩ := free_lo hF ((i3 i).mp hi) ((hl _ _).mp e)
        cases z <;> cases e2
      · exact ⟨⟨i, .inl rfl⟩, (free1 i).mp ((i4 i).mp hi)⟩
    · rintro ⟨⟨i, e | e⟩, h⟩
      · exact .inr ⟨i, (i4 i).mpr ((free1 i).mpr fun z ez => h z (e.trans ez)), e.symm⟩
      · by_cases f : Free F G i
        · exact .inl ⟨i, (i3 i).mpr f, e.symm⟩
        · have : ∃ z : Pt n, Cl (Three F G) (mid i) (out z) := Classical.byContradiction fun no => f fun z c => no ⟨z, c⟩
          obtain ⟨z, c⟩ := this
          have c4 := (hl _ _).mpr (lo_four (E := E) _ _ c)
          match z, c4 with
          | .inr j, c4 => exact (h (.inr j) (e.trans c4)).elim
          | .inl j, c4 =>
            refine .inr ⟨j, (i4 j).mpr ((free1 j).mpr fun z ez => h z (e.trans (c4.trans ez))), ?_⟩
            exact (e.trans c4).symm
  have dj12 : ∀ v ∈ I1.map (fun i => lab (m1 i)), v ∉ I2.map (fun i => lab (m2 i)) := fun v hv hw => by
    obtain ⟨i, hi, rfl⟩ := List.mem_map.mp hv
    obtain ⟨j, hj, e⟩ := List.mem_map.mp hw
    obtain ⟨k, e2, _⟩ := free_hi hE ((i1 i).mp hi) ((hl _ _).mp e.symm)
    cases e2
  have dj34 : ∀ v ∈ I3.map (fun i => lab (m2 i)), v ∉ I4.map (fun i => lab (m1 i)) := fun v hv hw => by
    obtain ⟨i, hi, rfl⟩ := List.mem_map.mp hv
    obtain ⟨j, hj, e⟩ := List.mem_map.mp hw
    obtain ⟨k, e2, _⟩ := free_lo hF ((i3 i).mp hi) ((hl _ _).mp e.symm)
    cases e2
  rw [← e1, ← e2, ← e3, ← e4, ← dn_app dj12, ← dn_app dj34]
  exact dn_same fun v => (mem12 v).trans (mem34 v).symm
end
end Fig

/-! M12: left over, by lists; the leftovers of powers. -/
namespace Fig
/-- how many labels are between alone -/
def lfl (n : Nat) (l : List Int) : Nat := dn (((l.drop n).take n).filter fun x => !decide (x ∈ kept n l))
def left (n : Nat) (near far : List Int) : Nat := lfl n (mks n (lab n near far) n)
section
variable {n : Nat}
theorem mid_list {l : List Int} (hl : l.length = 4 * n) : (l.drop n).take n = (List.finRange n).map fun i => l.getD (n + i.val) 0 := by
  refine List.ext_getElem? fun j => ?_
  by_cases h : j < n
  · rw [List.getElem?_take_of_lt h, List.getElem?_drop, List.getElem?_map, List.getElem?_eq_getElem (l := List.finRange n) (by rw [List.length_finRange]; exact h), getD_some (by omega)]
    show some (l.getD (n + j) 0) = some (l.getD (n + ((List.finRange n)[j]'_).val) 0)
    rw [List.getElem_finRange]
    rfl
  · rw [List.getElem?_eq_none (by rw [List.length_take]; omega), List.getElem?_eq_none (by rw [List.length_map, List.length_finRange]; omega)]
theorem mem_kept {l : List Int} (hl : l.length = 4 * n) {x : Int} : x ∈ kept n l ↔ ∃ z : Pt n, l.getD (outq z) 0 = x := by
  rw [List.mem_iff_getElem?]
  constructor
  · rintro ⟨j, e⟩
    have hj : j < 2 * n := by
      have := (List.getElem?_eq_some_iff.mp e).1
      rw [kept_len hl] at this
      exact this
    have : ∃ z : Pt n, pos z = j := by
      by_cases h : j < n
      · exact ⟨.inl ⟨j, h⟩, rfl⟩
      · exact ⟨.inr ⟨j - n, by omega⟩, show n + (j - n) = j by omega⟩
    obtain ⟨z, rfl⟩ := this
    rw [kept_get hl, getD_some (by rw [hl]; exact outq_lt z)] at e
    exact ⟨z, Option.some.inj e⟩
  · rintro ⟨z, e⟩
    refine ⟨pos z, ?_⟩
    rw [kept_get hl, getD_some (by rw [hl]; exact outq_lt z), e]
theorem lfl_Lf {E F : Rl (Pt n)} {l : List Int} (hl : l.length = 4 * n) (hk : ∀ p p' : P3 n, l.getD (place p) 0 = l.getD (place p') 0 ↔ Cl (Three E F) p p') : Lf E F (lfl n l) := by
  classical
  refine ⟨fun I lab hI hlab => ?_⟩
  unfold lfl
  have fr : ∀ i : Fin n, Free E F i ↔ l.getD (n + i.val) 0 ∉ kept n l := fun i => by
    rw [mem_kept hl]
    constructor
    · rintro h ⟨z, e⟩
      exact h z ((hk (mid i) (out z)).mp (by rw [← outq_place]; exact e.symm))
    · intro h z c
      refine h ⟨z, ?_⟩
      have := (hk (mid i) (out z)).mpr c
      rw [← outq_place] at this
      exact this.symm
  have e1 : ((l.drop n).take n).filter (fun x => !decide (x ∈ kept n l)) = ((List.finRange n).filter fun i => decide (Free E F i)).map fun i => l.getD (n + i.val) 0 := by
    rw [mid_list hl, List.filter_map]
    congr 1
    refine List.filter_congr fun i _ => ?_
    show (!decide (l.getD (n + i.val) 0 ∈ kept n l)) = decide (Free E F i)
    by_cases q : l.getD (n + i.val) 0 ∈ kept n l
    · rw [decide_eq_true q, decide_eq_false (fun z => (fr i).mp z q)]; rfl
    · rw [decide_eq_false q, decide_eq_true ((fr i).mpr q)]; rfl
  rw [e1]
  rw [dn_same (Y := I.map fun i => l.getD (n + i.val) 0) fun x => by
    simp only [List.mem_map, List.mem_filter, List.mem_finRange, true_and, decide_eq_true_eq]
    exact ⟨fun ⟨i, h, e⟩ => ⟨i, (hI i).mpr h, e⟩, fun ⟨i, h, e⟩ => ⟨i, (hI i).mp h, e⟩⟩]
  refine dn_map_ker fun i hi j hj => ?_
  rw [hlab i j ((hI i).mp hi) ((hI j).mp hj)]
  exact (hk (mid i) (mid j)).symm
theorem Lf.uniq {E F : Rl (Pt n)} {a b : Nat} (h1 : Lf E F a) (h2 : Lf E F b) : a = b := by
  classical
  obtain ⟨lab, hl⟩ := labels (Cl.eqv (Three E F)) ((List.finRange n).map (fun i => .inl i) ++ ((List.finRange n).map mid ++ (List.finRange n).map fun i => .inr (.inr i))) (fun x => by
    simp only [List.mem_append, List.mem_map]
    match x with
    | .inl i => exact .inl ⟨i, List.mem_finRange _, rfl⟩
    | .inr (.inl i) => exact .inr (.inl ⟨i, List.mem_finRange _, rfl⟩)
    | .inr (.inr i) => exact .inr (.inr ⟨i, List.mem_finRange _, rfl⟩))
  have hI : ∀ i, i ∈ (List.finRange n).filter (fun i => decide (Free E F i)) ↔ Free E F i := fun i => by simp
  rw [← h1.eq _ (fun i => lab (mid i)) hI fun i j _ _ => hl _ _, ← h2.eq _ (fun i => lab (mid i)) hI fun i j _ _ => hl _ _]
theorem Joins.ker {near far : List Int} {μ : Nat → Nat → Int} (J : Joins n near far μ) (p p' : P3 n) : μ n (place p) = μ n (place p') ↔ Cl (Three (kr n near) (kr n far)) p p' :=
  ⟨fun e => J.into n (Nat.le_refl _) _ _ _ _ (place_lt p) (place_lt p') (place_pt p) (place_pt p') e, fun c => J.from c⟩
variable {a b c : List Int}
theorem left_Lf (fa : Fg n a) (fb : Fg n b) : Lf (kr n a) (kr n b) (left n a b) := by
  unfold left
  exact lfl_Lf (by rw [mks_len, lab_len fa.len fb.len]) fun p p' => (mks_joins fa fb).ker p p'
/-- by links -/
theorem left_links (fa : Fg n a) (fb : Fg n b) : lfl n ((lab n a b).map (rho n (lab n a b) n)) = left n a b := by
  have l0 := lab_len (n := n) fa.len fb.len
  refine Lf.uniq (lfl_Lf (by rw [List.length_map, l0]) fun p p' => ?_) (left_Lf fa fb)
  refine Iff.trans ?_ ((rho_joins fa fb).ker p p')
  have g : ∀ q : P3 n, ((lab n a b).map (rho n (lab n a b) n)).getD (place q) 0 = rho n (lab n a b) n ((lab n a b).getD (place q) 0) := fun q => by
    have := place_lt q
    rw [List.getD_eq_getElem?_getD, List.getElem?_map, getD_some (by omega)]; rfl
  rw [g, g]
theorem kr_lup (fa : Fg n a) (fb : Fg n b) : kr n (lup n a b) = up (kr n a) (kr n b) := funext fun x => funext fun y => propext (lup_kr fa fb x y)
theorem left_add (fa : Fg n a) (fb : Fg n b) (fc : Fg n c) : left n a b + left n (lup n a b) c = left n b c + left n a (lup n b c) := by
  have h2 := left_Lf (lup_fg fa fb) fc
  have h4 := left_Lf fa (lup_fg fb fc)
  rw [kr_lup fa fb] at h2
  rw [kr_lup fb fc] at h4
  exact lf_add (kr_eqv a) (kr_eqv b) (kr_eqv c) (left_Lf fa fb) h2 (left_Lf fb fc) h4
theorem kr_strt : kr n (strt n) = E0 := funext fun x => funext fun y => propext (strt_kr x y)
theorem left_strt (fa : Fg n a) : left n a (strt n) = 0 := by
  have h := left_Lf fa (strt_fg n)
  rw [kr_strt] at h
  have := h.eq [] (fun _ => 0) (fun i => ⟨fun m => (by cases m), fun f => (f (.inr i) (.one (.fig rfl))).elim⟩) (fun i _ f _ => (f (.inr i) (.one (.fig rfl))).elim)
  exact this.symm
theorem strt_left (fa : Fg n a) : left n (strt n) a = 0 := by
  have h := left_Lf (strt_fg n) fa
  rw [kr_strt] at h
  have no : ∀ i : Fin n, ¬ Free (E0 : Rl (Pt n)) (kr n a) i := fun i f => f (.inl i) (.symm (.one (.tm rfl)))
  have := h.eq [] (fun _ => 0) (fun i => ⟨fun m => (by cases m), fun f => (no i f).elim⟩) (fun i _ f _ => (no i f).elim)
  exact this.symm
/-- the leftovers of a power -/
def Tl (n : Nat) (fig : List Int) : Nat → Nat
  | 0 => 0
  | k + 1 => Tl n fig k + left n (pw n fig k) fig
theorem Tl_add {fig : List Int} (f : Fg n fig) (a : Nat) : ∀ b, Tl n fig (a + b) = Tl n fig a + Tl n fig b + left n (pw n fig a) (pw n fig b)
  | 0 => by rw [show left n (pw n fig a) (pw n fig 0) = 0 from left_strt (pw_fg f a)]; rfl
  | b + 1 => by
    have ih := Tl_add f a b
    have h := left_add (pw_fg f a) (pw_fg f b) f
    rw [pw_add f a b] at h
    show Tl n fig (a + b) + left n (pw n fig (a + b)) fig = Tl n fig a + (Tl n fig b + left n (pw n fig b) fig) + left n (pw n fig a) (lup n (pw n fig b) fig)
    omega
theorem Tl_one {fig : List Int} (f : Fg n fig) : Tl n fig 1 = 0 := by
  show 0 + left n (strt n) fig = 0
  rw [strt_left f]
theorem Rd.perT {fig : List Int} {m f : Nat} (r : Rd n fig m f) : ∀ k, Tl n fig (f + k + (m - f)) + Tl n fig f = Tl n fig (f + k) + Tl n fig m
  | 0 => by
    have := r.lt
    rw [show f + 0 + (m - f) = m by omega, Nat.add_zero, Nat.add_comm]
  | k + 1 => by
    have ih := r.perT k
    have hp := r.per k
    rw [show f + (k + 1) + (m - f) = (f + k + (m - f)) + 1 by omega, show f + (k + 1) = (f + k) + 1 by omega]
    show Tl n fig (f + k + (m - f)) + left n (pw n fig (f + k + (m - f))) fig + Tl n fig f = Tl n fig (f + k) + left n (pw n fig (f + k)) fig + Tl n fig m
    rw [hp]
    omega
theorem Rd.persT {fig : List Int} {m f : Nat} (r : Rd n fig m f) (k : Nat) : ∀ j, Tl n fig (f + k + j * (m - f)) + j * Tl n fig f = Tl n fig (f + k) + j * Tl n fig m
  | 0 => by simp
  | j + 1 => by
    have ih := r.persT k j
    have h := r.perT (k + j * (m - f))
    rw [show f + (k + j * (m - f)) = f + k + j * (m - f) by omega] at h
    rw [show f + k + (j + 1) * (m - f) = f + k + j * (m - f) + (m - f) by rw [Nat.succ_mul]; omega, Nat.succ_mul, Nat.succ_mul]
    omega
end
end Fig

/-! M13: rings; bounds; powers by doubling. -/
namespace Fig
/-- one place hung to itself -/
def rmk (n : Nat) (l : List Int) (k : Nat) : List Int := l.map fun x => if x = l.getD (n + k) 0 then l.getD k 0 else x
def rmks (n : Nat) (l : List Int) : Nat → List Int
  | 0 => l
  | k + 1 => rmk n (rmks n l k) k
def rgs (n : Nat) (l : List Int) : Nat := dn ((rmks n l n).take n)
theorem rmk_len (n : Nat) (l : List Int) (k : Nat) : (rmk n l k).length = l.length := List.length_map ..
theorem rmks_len (n : Nat) (l : List Int) : ∀ k, (rmks n l k).length = l.length
  | 0 => rfl
  | k + 1 => by show (rmk n _ k).length = _; rw [rmk_len, rmks_len n l k]
theorem rmk_same {n : Nat} {l : List Int} {k : Nat} (e : l.getD k 0 = l.getD (n + k) 0) : rmk n l k = l := by
  unfold rmk
  rw [e]
  refine (List.map_congr_left fun x _ => ?_).trans (List.map_id l)
  show (if x = l.getD (n + k) 0 then l.getD (n + k) 0 else x) = x
  split
  · rename_i h; exact h.symm
  · rfl
theorem rgs_le (n : Nat) (l : List Int) : rgs n l ≤ n := by
  unfold rgs
  have := dn_le ((rmks n l n).take n)
  rw [List.length_take] at this
  omega
theorem left_le (n : Nat) (a b : List Int) : left n a b ≤ n := by
  unfold left lfl
  refine Nat.le_trans (dn_le _) (Nat.le_trans (List.length_filter_le _ _) ?_)
  rw [List.length_take]; omega
theorem Tl_le (n : Nat) (fig : List Int) : ∀ k, Tl n fig k ≤ n * k
  | 0 => Nat.le_refl _
  | k + 1 => by
    have := Tl_le n fig k
    have := left_le n (pw n fig k) fig
    show Tl n fig k + left n (pw n fig k) fig ≤ n * (k + 1)
    rw [Nat.mul_succ]
    omega
theorem lup_pow {n : Nat} {fig : List Int} (f : Fg n fig) (a b : Nat) : lup n (pw n fig a) (pw n fig b) = pw n fig (a + b) := pw_add f a b
theorem mod_double (q j : Nat) : q % 2 ^ (j + 1) = q % 2 ^ j + (q / 2 ^ j % 2) * 2 ^ j := by
  have h := Nat.mod_mul (x := q) (a := 2 ^ j) (b := 2)
  rw [Nat.pow_succ, h, Nat.mul_comm (2 ^ j)]
end Fig

/-! M14: labels of places by two equalities; rings by halves; figures of no rank. -/
namespace Fig
/-- labels of n places: the least equality that holds what p and q hold -/
structure Pq (n : Nat) (p q : Nat → Int) (ν : Nat → Int) : Prop where
  pe : ∀ i j, i < n → j < n → p i = p j → ν i = ν j
  qe : ∀ i j, i < n → j < n → q i = q j → ν i = ν j
  rs : ∀ w : Nat → Prop, (∀ i j, i < n → j < n → p i = p j → (w i ↔ w j)) → (∀ i j, i < n → j < n → q i = q j → (w i ↔ w j)) → ∀ i j, i < n → j < n → ν i = ν j → (w i ↔ w j)
section
variable {n : Nat} {p q ν ν' : Nat → Int}
theorem Pq.sub (h : Pq n p q ν) (h' : Pq n p q ν') {i j : Nat} (hi : i < n) (hj : j < n) (e : ν i = ν j) : ν' i = ν' j :=
  (h.rs (fun x => ν' i = ν' x) (fun a b ha hb e => by rw [h'.pe a b ha hb e]) (fun a b ha hb e => by rw [h'.qe a b ha hb e]) i j hi hj e).mp rfl
theorem Pq.swap (h : Pq n p q ν) : Pq n q p ν := ⟨h.qe, h.pe, fun w a b => h.rs w b a⟩
theorem dn_coarse {γ α β : Type} [DecidableEq α] [DecidableEq β] {f : γ → α} {g : γ → β} : ∀ {L : List γ}, (∀ x ∈ L, ∀ y ∈ L, f x = f y → g x = g y) → dn (L.map g) ≤ dn (L.map f)
  | [], _ => Nat.le_refl _
  | x :: xs, h => by
    have ih := dn_coarse (L := xs) fun y hy z hz => h y (List.mem_cons_of_mem _ hy) z (List.mem_cons_of_mem _ hz)
    rw [List.map_cons, List.map_cons]
    by_cases m : f x ∈ xs.map f
    · have m2 : g x ∈ xs.map g := by
        obtain ⟨y, hy, e⟩ := List.mem_map.mp m
        exact List.mem_map.mpr ⟨y, hy, h y (List.mem_cons_of_mem _ hy) x List.mem_cons_self e⟩
      rw [dn_cons_in m, dn_cons_in m2]; exact ih
    · rw [dn_cons_no m]
      by_cases m2 : g x ∈ xs.map g
      · rw [dn_cons_in m2]; omega
      · rw [dn_cons_no m2]; omega
theorem Pq.count (h : Pq n p q ν) (h' : Pq n p q ν') : dn ((List.range n).map ν) = dn ((List.range n).map ν') :=
  Nat.le_antisymm (dn_coarse fun i hi j hj e => h'.sub h (List.mem_range.mp hi) (List.mem_range.mp hj) e) (dn_coarse fun i hi j hj e => h.sub h' (List.mem_range.mp hi) (List.mem_range.mp hj) e)
/-- p, q are what E holds at the bottom and F at the top -/
structure Ends (E F : Rl (Pt n)) (p q : Nat → Int) : Prop where
  p : ∀ i j : Fin n, p i.val = p j.val ↔ E (.inr i) (.inr j)
  q : ∀ i j : Fin n, q i.val = q j.val ↔ F (.inl i) (.inl j)
variable {E F : Rl (Pt n)}
/-- hung to the outside at once -/
def Th (E F : Rl (Pt n)) (i : Fin n) : Prop := (∃ t, E (.inl t) (.inr i)) ∨ ∃ b, F (.inr b) (.inl i)
def wz (E F : Rl (Pt n)) (ν : Nat → Int) (i : Fin n) : P3 n → Prop
  | .inl t => ∃ j : Fin n, E (.inl t) (.inr j) ∧ ν i.val = ν j.val
  | .inr (.inl j) => ν i.val = ν j.val
  | .inr (.inr b) => ∃ j : Fin n, F (.inr b) (.inl j) ∧ ν i.val = ν j.val
theorem wz_cl (hE : Eqv E) (hF : Eqv F) (en : Ends E F p q) (h : Pq n p q ν) (i : Fin n) {x y : P3 n} (c : Cl (Three E F) x y) : wz E F ν i x ↔ wz E F ν i y := by
  have pe : ∀ a b : Fin n, E (.inr a) (.inr b) → ν a.val = ν b.val := fun a b r => h.pe _ _ a.isLt b.isLt ((en.p a b).mpr r)
  have qe : ∀ a b : Fin n, F (.inl a) (.inl b) → ν a.val = ν b.val := fun a b r => h.qe _ _ a.isLt b.isLt ((en.q a b).mpr r)
  refine Cl.least (s := fun x y => wz E F ν i x ↔ wz E F ν i y) ?_ (fun _ => Iff.rfl) (fun _ _ h => h.symm) (fun _ _ _ h k => h.trans k) c
  intro a b s
  cases s with
  | tt r => exact ⟨fun ⟨j, u, e⟩ => ⟨j, hE.trans (hE.symm r) u, e⟩, fun ⟨j, u, e⟩ => ⟨j, hE.trans r u, e⟩⟩
  | tm r => exact ⟨fun ⟨j, u, e⟩ => e.trans (pe _ _ (hE.trans (hE.symm u) r)), fun e => ⟨_, r, e⟩⟩
  | mm r => exact ⟨fun e => Eq.trans e (pe _ _ r), fun e => Eq.trans e (pe _ _ r).symm⟩
  | @fig x y r =>
    match x, y, r with
    | .inl u, .inl v, r => exact ⟨fun e => Eq.trans e (qe _ _ r), fun e => Eq.trans e (qe _ _ r).symm⟩
    | .inl u, .inr v, r => exact ⟨fun e => ⟨u, hF.symm r, e⟩, fun ⟨j, w, e⟩ => e.trans (qe _ _ (hF.symm (hF.trans r w)))⟩
    | .inr u, .inl v, r => exact ⟨fun ⟨j, w, e⟩ => e.trans (qe _ _ (hF.trans (hF.symm w) r)), fun e => ⟨v, r, e⟩⟩
    | .inr u, .inr v, r => exact ⟨fun ⟨j, w, e⟩ => ⟨j, hF.trans (hF.symm r) w, e⟩, fun ⟨j, w, e⟩ => ⟨j, hF.trans r w, e⟩⟩
theorem Pq.mids (hE : Eqv E) (hF : Eqv F) (en : Ends E F p q) (h : Pq n p q ν) (i j : Fin n) : ν i.val = ν j.val ↔ Cl (Three E F) (mid i) (mid j) := by
  constructor
  · intro e
    have := h.rs (fun x => ∃ hx : x < n, Cl (Three E F) (mid i) (mid ⟨x, hx⟩)) (fun a b ha hb r => ?_) (fun a b ha hb r => ?_) i.val j.val i.isLt j.isLt e
    · obtain ⟨_, c⟩ := this.mp ⟨i.isLt, .refl _⟩
      exact c
    · have r' := (en.p ⟨a, ha⟩ ⟨b, hb⟩).mp r
      exact ⟨fun ⟨_, c⟩ => ⟨hb, .trans c (.one (.mm r'))⟩, fun ⟨_, c⟩ => ⟨ha, .trans c (.symm (.one (.mm r')))⟩⟩
    · have r' := (en.q ⟨a, ha⟩ ⟨b, hb⟩).mp r
      exact ⟨fun ⟨_, c⟩ => ⟨hb, .trans c (.one (.fig r'))⟩, fun ⟨_, c⟩ => ⟨ha, .trans c (.symm (.one (.fig r')))⟩⟩
  · intro c
    exact (wz_cl hE hF en h i c).mp (show ν i.val = ν i.val from rfl)
theorem Pq.free (hE : Eqv E) (hF : Eqv F) (en : Ends E F p q) (h : Pq n p q ν) (i : Fin n) : Free E F i ↔ ∀ j : Fin n, ν i.val = ν j.val → ¬ Th E F j := by
  constructor
  · intro fr j e t
    have c := (h.mids hE hF en i j).mp e
    rcases t with ⟨t, r⟩ | ⟨b, r⟩
    · exact fr (.inl t) (.trans c (.symm (.one (.tm r))))
    · exact fr (.inr b) (.trans c (.one (.fig (hF.symm r))))
  · intro no z c
    have := (wz_cl hE hF en h i c).mp (show ν i.val = ν i.val from rfl)
    match z, this with
    | .inl t, ⟨j, r, e⟩ => exact no j e (.inl ⟨t, r⟩)
    | .inr b, ⟨j, r, e⟩ => exact no j e (.inr ⟨b, r⟩)
/-- rings: the classes that are hung to nothing outside -/
theorem Pq.lf (hE : Eqv E) (hF : Eqv F) (en : Ends E F p q) (h : Pq n p q ν) (I : List (Fin n)) (hI : ∀ i, i ∈ I ↔ Free E F i) : Lf E F (dn (I.map fun i => ν i.val)) := by
  refine ⟨fun I' lab hI' hl => ?_⟩
  have e1 : dn (I'.map lab) = dn (I'.map fun i => ν i.val) := dn_map_ker fun i hi j hj => by
    rw [hl i j ((hI' i).mp hi) ((hI' j).mp hj), h.mids hE hF en i j]
  rw [e1]
  refine dn_same fun x => ?_
  rw [List.mem_map, List.mem_map]
  exact ⟨fun ⟨i, m, e⟩ => ⟨i, (hI i).mpr ((hI' i).mp m), e⟩, fun ⟨i, m, e⟩ => ⟨i, (hI' i).mpr ((hI i).mp m), e⟩⟩
end
/-! rings of a figure closed upon itself -/
structure Rq (n : Nat) (l : List Int) (k : Nat) (ρ : Nat → Int) : Prop where
  eq : ∀ x y, x < 2 * n → y < 2 * n → l.getD x 0 = l.getD y 0 → ρ x = ρ y
  th : ∀ i, i < k → ρ i = ρ (n + i)
  rs : ∀ w : Nat → Prop, (∀ x y, x < 2 * n → y < 2 * n → l.getD x 0 = l.getD y 0 → (w x ↔ w y)) → (∀ i, i < k → (w i ↔ w (n + i))) → ∀ x y, x < 2 * n → y < 2 * n → ρ x = ρ y → (w x ↔ w y)
theorem rmks_rq {n : Nat} {l : List Int} (hl : l.length = 2 * n) : ∀ k, k ≤ n → Rq n l k fun x => (rmks n l k).getD x 0
  | 0, _ => ⟨fun _ _ _ _ e => e, fun i h => by omega, fun w a _ x y hx hy e => a x y hx hy e⟩
  | k + 1, hk => by
    have ih := rmks_rq hl k (by omega)
    have ln := rmks_len n l k
    have g : ∀ x, x < 2 * n → (rmks n l (k + 1)).getD x 0 = if (rmks n l k).getD x 0 = (rmks n l k).getD (n + k) 0 then (rmks n l k).getD k 0 else (rmks n l k).getD x 0 := fun x hx => by
      show (rmk n (rmks n l k) k).getD x 0 = _
      unfold rmk
      rw [List.getD_eq_getElem?_getD, List.getElem?_map, getD_some (by omega)]; rfl
    refine ⟨fun x y hx hy e => ?_, fun i hi => ?_, fun w a b x y hx hy e => ?_⟩
    · have := ih.eq x y hx hy e
      rw [g x hx, g y hy]
      try simp only at this
      rw [this]
    · rw [g i (by omega), g (n + i) (by omega)]
      by_cases c : i = k
      · subst c
        rw [if_pos rfl]
        split <;> rfl
      · have := ih.th i (by omega)
        try simp only at this
        rw [this]
    · have R := ih.rs w a fun i hi => b i (by omega)
      have bk := b k (by omega)
      try simp only at e
      rw [g x hx, g y hy] at e
      by_cases c1 : (rmks n l k).getD x 0 = (rmks n l k).getD (n + k) 0
      · have r1 := R x (n + k) hx (by omega) c1
        rw [if_pos c1] at e
        by_cases c2 : (rmks n l k).getD y 0 = (rmks n l k).getD (n + k) 0
        · exact r1.trans (R y (n + k) hy (by omega) c2).symm
        · rw [if_neg c2] at e
          exact r1.trans (bk.symm.trans (R k y (by omega) hy e))
      · rw [if_neg c1] at e
        by_cases c2 : (rmks n l k).getD y 0 = (rmks n l k).getD (n + k) 0
        · rw [if_pos c2] at e
          exact (R x k hx (by omega) e).trans (bk.trans (R y (n + k) hy (by omega) c2).symm)
        · rw [if_neg c2] at e
          exact R x y hx hy e
theorem rgs_map {n : Nat} {l : List Int} (hl : l.length = 2 * n) : rgs n l = dn ((List.range n).map fun x => (rmks n l n).getD x 0) := by
  unfold rgs
  congr 1
  refine List.ext_getElem? fun j => ?_
  by_cases h : j < n
  · rw [List.getElem?_take_of_lt h, List.getElem?_map, List.getElem?_range h, getD_some (by rw [rmks_len]; omega)]; rfl
  · rw [List.getElem?_eq_none (by rw [List.length_take]; omega), List.getElem?_eq_none (by rw [List.length_map, List.length_range]; omega)]
section
variable {n : Nat} {l : List Int} {ν : Nat → Int}
theorem kr_get (hl : l.length = 2 * n) (x y : Pt n) : kr n l x y ↔ l.getD (pos x) 0 = l.getD (pos y) 0 := by
  have lt : ∀ z : Pt n, pos z < l.length := fun z => by
    match z with
    | .inl i => have := i.isLt; show i.val < _; omega
    | .inr i => have := i.isLt; show n + i.val < _; omega
  exact (getD_eq (lt x) (lt y)).symm
theorem ends_of {a b : List Int} (ha : a.length = 2 * n) (hb : b.length = 2 * n) : Ends (kr n a) (kr n b) (fun i => a.getD (n + i) 0) (fun i => b.getD i 0) :=
  ⟨fun i j => (kr_get ha (.inr i) (.inr j)).symm, fun i j => (kr_get hb (.inl i) (.inl j)).symm⟩
theorem rgs_le_all (hl : l.length = 2 * n) (h : Pq n (fun i => l.getD (n + i) 0) (fun i => l.getD i 0) ν) : rgs n l ≤ dn ((List.range n).map ν) := by
  rw [rgs_map hl]
  have R := rmks_rq hl n (Nat.le_refl _)
  refine dn_coarse fun i hi j hj e => ?_
  have hi := List.mem_range.mp hi
  have hj := List.mem_range.mp hj
  refine (h.rs (fun x => (rmks n l n).getD i 0 = (rmks n l n).getD x 0) (fun a b ha hb e => ?_) (fun a b ha hb e => ?_) i j hi hj e).mp rfl
  · have e1 := R.eq (n + a) (n + b) (by omega) (by omega) e
    have e2 := R.th a ha
    have e3 := R.th b hb
    try simp only at e1 e2 e3
    rw [e2, e3, e1]
  · have e1 := R.eq a b (by omega) (by omega) e
    try simp only at e1
    rw [e1]
theorem free_le_rgs (hl : l.length = 2 * n) (h : Pq n (fun i => l.getD (n + i) 0) (fun i => l.getD i 0) ν) (I : List (Fin n)) (hI : ∀ i, i ∈ I → Free (kr n l) (kr n l) i) : dn (I.map fun i => ν i.val) ≤ rgs n l := by
  rw [rgs_map hl]
  have R := rmks_rq hl n (Nat.le_refl _)
  have E := kr_eqv (n := n) l
  have en := ends_of hl hl
  refine Nat.le_trans (dn_coarse (f := fun i : Fin n => (rmks n l n).getD i.val 0) fun i hi j hj e => ?_) (dn_mono fun x m => ?_)
  · have no := (h.free E E en i).mp (hI i hi)
    have := R.rs (fun x => (∃ hx : x < n, ν i.val = ν x) ∨ (n ≤ x ∧ ν i.val = ν (x - n))) (fun x y hx hy e => ?_) (fun k hk => ?_) i.val j.val (by omega) (by omega) e
    · rcases this.mp (.inl ⟨i.isLt, rfl⟩) with ⟨_, e⟩ | ⟨e, _⟩
      · exact e
      · omega
    · have thr : ∀ (a b : Nat) (ha : a < n) (hb : b < n), l.getD a 0 = l.getD (n + b) 0 → ν i.val ≠ ν a ∧ ν i.val ≠ ν b := fun a b ha hb e =>
        ⟨fun q => no ⟨a, ha⟩ q (.inr ⟨⟨b, hb⟩, (kr_get hl (.inr ⟨b, hb⟩) (.inl ⟨a, ha⟩)).mpr e.symm⟩), fun q => no ⟨b, hb⟩ q (.inl ⟨⟨a, ha⟩, (kr_get hl (.inl ⟨a, ha⟩) (.inr ⟨b, hb⟩)).mpr e⟩)⟩
      by_cases cx : x < n <;> by_cases cy : y < n
      · have := h.qe x y cx cy e
        constructor
        · rintro (⟨_, q⟩ | ⟨q, _⟩)
          · exact .inl ⟨cy, q.trans this⟩
          · omega
        · rintro (⟨_, q⟩ | ⟨q, _⟩)
          · exact .inl ⟨cx, q.trans this.symm⟩
          · omega
      · have t := thr x (y - n) cx (by omega) (by rw [e, show n + (y - n) = y by omega])
        constructor
        · rintro (⟨_, q⟩ | ⟨q, _⟩)
          · exact (t.1 q).elim
          · omega
        · rintro (⟨q, _⟩ | ⟨_, q⟩)
          · omega
          · exact (t.2 q).elim
      · have t := thr y (x - n) cy (by omega) (by rw [← e, show n + (x - n) = x by omega])
        constructor
        · rintro (⟨q, _⟩ | ⟨_, q⟩)
          · omega
          · exact (t.2 q).elim
        · rintro (⟨_, q⟩ | ⟨q, _⟩)
          · exact (t.1 q).elim
          · omega
      · have := h.pe (x - n) (y - n) (by omega) (by omega) (by rw [show n + (x - n) = x by omega, show n + (y - n) = y by omega]; exact e)
        constructor
        · rintro (⟨q, _⟩ | ⟨_, q⟩)
          · omega
          · exact .inr ⟨by omega, q.trans this⟩
        · rintro (⟨q, _⟩ | ⟨_, q⟩)
          · omega
          · exact .inr ⟨by omega, q.trans this.symm⟩
    · constructor
      · rintro (⟨_, q⟩ | ⟨q, _⟩)
        · exact .inr ⟨by omega, by rw [show n + k - n = k by omega]; exact q⟩
        · omega
      · rintro (⟨q, _⟩ | ⟨_, q⟩)
        · omega
        · rw [show n + k - n = k by omega] at q
          exact .inl ⟨hk, q⟩
  · obtain ⟨i, _, e⟩ := List.mem_map.mp m
    exact List.mem_map.mpr ⟨i.val, List.mem_range.mpr i.isLt, e⟩
end
end Fig

/-! M15: links of pairs; marks of lots; figures of no rank. -/
namespace Fig
/-- the links of hung -/
def hks (n : Nat) (p q : List Int) : Nat → List Int
  | 0 => (List.range (2 * n)).map fun i : Nat => (i : Int)
  | k + 1 => (hks n p q k).set (max (fo (hks n p q k) (p.getD k 0)) (fo (hks n p q k) ((n : Int) + q.getD k 0))).toNat (min (fo (hks n p q k) (p.getD k 0)) (fo (hks n p q k) ((n : Int) + q.getD k 0)))
theorem hks_len (n : Nat) (p q : List Int) : ∀ k, (hks n p q k).length = 2 * n
  | 0 => by show ((List.range (2 * n)).map _).length = _; rw [List.length_map, List.length_range]
  | k + 1 => by show ((hks n p q k).set _ _).length = _; rw [List.length_set, hks_len n p q k]
/-- what holds of the links -/
structure Hk (n : Nat) (p q : List Int) (k : Nat) : Prop where
  lk : LK (hks n p q k)
  jn : ∀ i, i < k → fo (hks n p q k) (p.getD i 0) = fo (hks n p q k) ((n : Int) + q.getD i 0)
  rs : ∀ w : Int → Prop, (∀ i, i < k → (w (p.getD i 0) ↔ w ((n : Int) + q.getD i 0))) → ∀ x, 0 ≤ x → x < 2 * (n : Int) → (w (fo (hks n p q k) x) ↔ w x)
theorem hks_hk {n : Nat} {p q : List Int} (hp : ∀ i, i < n → 0 ≤ p.getD i 0 ∧ p.getD i 0 < (n : Int)) (hq : ∀ i, i < n → 0 ≤ q.getD i 0 ∧ q.getD i 0 < (n : Int)) : ∀ k, k ≤ n → Hk n p q k
  | 0, _ => by
    have lk : LK (hks n p q 0) := ⟨fun i x e => by
      have e : ((List.range (2 * n)).map fun i : Nat => (i : Int))[i]? = some x := e
      rw [List.getElem?_map] at e
      obtain ⟨j, ej, rfl⟩ := Option.map_eq_some_iff.mp e
      by_cases hi : i < 2 * n
      · rw [List.getElem?_range hi] at ej; cases ej; omega
      · rw [List.getElem?_eq_none (by rw [List.length_range]; omega)] at ej; cases ej⟩
    refine ⟨lk, fun i h => by omega, fun w _ x h0 h1 => ?_⟩
    rw [fo_self lk h0 (by rw [hks_len]; omega) ?_]
    show ((List.range (2 * n)).map fun i : Nat => (i : Int)).getD x.toNat 0 = x
    rw [List.getD_eq_getElem?_getD, List.getElem?_map, List.getElem?_range (by omega)]
    show ((x.toNat : Nat) : Int) = x
    omega
  | k + 1, hk => by
    have ih := hks_hk hp hq k (by omega)
    have lk := ih.lk
    have len := hks_len n p q k
    have a := hp k (by omega)
    have b := hq k (by omega)
    have fa := fo_ok lk a.1 (by rw [len]; omega)
    have fb := fo_ok lk (show 0 ≤ (n : Int) + q.getD k 0 by omega) (by rw [len]; omega)
    have key : ∃ hi lo : Int, hks n p q (k + 1) = (hks n p q k).set hi.toNat lo ∧ 0 ≤ lo ∧ lo ≤ hi ∧ hi < ((hks n p q k).length : Int) ∧ (hks n p q k).getD hi.toNat 0 = hi ∧ (hks n p q k).getD lo.toNat 0 = lo ∧
        ((hi = fo (hks n p q k) (p.getD k 0) ∧ lo = fo (hks n p q k) ((n : Int) + q.getD k 0)) ∨ (lo = fo (hks n p q k) (p.getD k 0) ∧ hi = fo (hks n p q k) ((n : Int) + q.getD k 0))) := by
      rcases Int.le_total (fo (hks n p q k) (p.getD k 0)) (fo (hks n p q k) ((n : Int) + q.getD k 0)) with h | h
      · exact ⟨fo (hks n p q k) ((n : Int) + q.getD k 0), fo (hks n p q k) (p.getD k 0), by show (hks n p q k).set _ _ = _; rw [Int.max_eq_right h, Int.min_eq_left h], fa.1, h, by rw [len]; omega, fb.2.2, fa.2.2, .inr ⟨rfl, rfl⟩⟩
      · exact ⟨fo (hks n p q k) (p.getD k 0), fo (hks n p q k) ((n : Int) + q.getD k 0), by show (hks n p q k).set _ _ = _; rw [Int.max_eq_left h, Int.min_eq_right h], fb.1, h, by rw [len]; omega, fa.2.2, fb.2.2, .inl ⟨rfl, rfl⟩⟩
    obtain ⟨hi, lo, e, l0, l1, l2, r1, r2, who⟩ := key
    have st : ∀ x : Int, 0 ≤ x → x < 2 * (n : Int) → fo (hks n p q (k + 1)) x = if fo (hks n p q k) x = hi then lo else fo (hks n p q k) x := fun x h0 h1 => by
      rw [e]; exact fo_set lk l0 l1 l2 r1 r2 (2 * n) x h0 (by rw [len]; omega) (by omega)
    refine ⟨by rw [e]; exact set_LK lk l0 l1, fun i hi' => ?_, fun w hw x h0 h1 => ?_⟩
    · have ai := hp i (by omega)
      have bi := hq i (by omega)
      rw [st _ ai.1 (by omega), st _ (show 0 ≤ (n : Int) + q.getD i 0 by omega) (by omega)]
      by_cases c : i = k
      · subst c
        rcases who with ⟨w1, w2⟩ | ⟨w1, w2⟩ <;> rw [← w1, ← w2, if_pos rfl] <;> split <;> rfl
      · rw [ih.jn i (by omega)]
    · have R := ih.rs w fun i hi' => hw i (by omega)
      rw [st x h0 h1]
      split
      · rename_i c
        rw [← R x h0 h1, c]
        have wk := hw k (by omega)
        have Ra := R _ a.1 (by omega)
        have Rb := R ((n : Int) + q.getD k 0) (by omega) (by omega)
        rcases who with ⟨w1, w2⟩ | ⟨w1, w2⟩
        · rw [w1, w2]; exact Rb.trans (wk.symm.trans Ra.symm)
        · rw [w1, w2]; exact Ra.trans (wk.trans Rb.symm)
      · exact R x h0 h1
/-- the labels of places by the links -/
def hl (n : Nat) (p q : List Int) (i : Nat) : Int := fo (hks n p q n) (p.getD i 0)
theorem hl_pq {n : Nat} {p q : List Int} (hp : ∀ i, i < n → 0 ≤ p.getD i 0 ∧ p.getD i 0 < (n : Int)) (hq : ∀ i, i < n → 0 ≤ q.getD i 0 ∧ q.getD i 0 < (n : Int)) : Pq n (fun i => p.getD i 0) (fun i => q.getD i 0) (hl n p q) := by
  have H := hks_hk hp hq n (Nat.le_refl _)
  refine ⟨fun i j _ _ e => congrArg (fo (hks n p q n)) e, fun i j hi hj e => (H.jn i hi).trans ((congrArg (fun x => fo (hks n p q n) ((n : Int) + x)) e).trans (H.jn j hj).symm), fun w wp wq i j hi hj e => ?_⟩
  have R := H.rs (fun x => (∃ a, a < n ∧ p.getD a 0 = x ∧ w a) ∨ (∃ a, a < n ∧ (n : Int) + q.getD a 0 = x ∧ w a)) fun k hk => ?_
  · have ai := hp i hi
    have aj := hp j hj
    have ri := R _ ai.1 (by omega)
    have rj := R _ aj.1 (by omega)
    have e : fo (hks n p q n) (p.getD i 0) = fo (hks n p q n) (p.getD j 0) := e
    rw [e] at ri
    have ij := ri.symm.trans rj
    have self : ∀ a, a < n → (((∃ b, b < n ∧ p.getD b 0 = p.getD a 0 ∧ w b) ∨ (∃ b, b < n ∧ (n : Int) + q.getD b 0 = p.getD a 0 ∧ w b)) ↔ w a) := fun a ha => by
      constructor
      · rintro (⟨b, hb, eb, wb⟩ | ⟨b, hb, eb, wb⟩)
        · exact (wp b a hb ha eb).mp wb
        · have := hp a ha; have := hq b hb; omega
      · exact fun wa => .inl ⟨a, ha, rfl, wa⟩
    exact (self i hi).symm.trans (ij.trans (self j hj))
  · constructor
    · rintro (⟨b, hb, eb, wb⟩ | ⟨b, hb, eb, wb⟩)
      · exact .inr ⟨k, hk, rfl, (wp b k hb hk eb).mp wb⟩
      · have := hp k hk; have := hq b hb; omega
    · rintro (⟨b, hb, eb, wb⟩ | ⟨b, hb, eb, wb⟩)
      · have := hp b hb; have := hq k hk; omega
      · exact .inl ⟨k, hk, rfl, (wq b k hb hk (by omega)).mp wb⟩
/-! the marks of lots -/
def lmk (p : List Int) (far : List Int) (at_ one : Nat) : List Int := if far.getD one 0 = far.getD at_ 0 ∧ p.getD one 0 ≠ p.getD at_ 0 then p.map fun x => if x = p.getD at_ 0 then p.getD one 0 else x else p
def lrow (far : List Int) (at_ : Nat) (p : List Int) : Nat → List Int
  | 0 => p
  | k + 1 => lmk (lrow far at_ p k) far at_ k
def lall (near far : List Int) : Nat → List Int
  | 0 => near
  | k + 1 => lrow far k (lall near far k) k
/-- marks: joined pairs Q, all else as near -/
structure Lm (n : Nat) (near : List Int) (Q : Nat → Nat → Prop) (m : List Int) : Prop where
  len : m.length = n
  pe : ∀ i j, i < n → j < n → near.getD i 0 = near.getD j 0 → m.getD i 0 = m.getD j 0
  qe : ∀ i j, i < n → j < n → Q i j → m.getD i 0 = m.getD j 0
  rs : ∀ w : Nat → Prop, (∀ i j, i < n → j < n → near.getD i 0 = near.getD j 0 → (w i ↔ w j)) → (∀ i j, i < n → j < n → Q i j → (w i ↔ w j)) → ∀ i j, i < n → j < n → m.getD i 0 = m.getD j 0 → (w i ↔ w j)
theorem lmk_lm {n : Nat} {near far m : List Int} {Q Q' : Nat → Nat → Prop} (h : Lm n near Q m) {a o : Nat} (ha : a < n) (ho : o < n) (sub : ∀ i j, Q i j → Q' i j) (new : ∀ i j, Q' i j → Q i j ∨ (i = o ∧ j = a ∧ far.getD o 0 = far.getD a 0)) (has : far.getD o 0 = far.getD a 0 → Q' o a) : Lm n near Q' (lmk m far a o) := by
  unfold lmk
  split
  · rename_i c
    have g : ∀ x, x < n → (m.map fun x => if x = m.getD a 0 then m.getD o 0 else x).getD x 0 = if m.getD x 0 = m.getD a 0 then m.getD o 0 else m.getD x 0 := fun x hx => by
      rw [List.getD_eq_getElem?_getD, List.getElem?_map, getD_some (by rw [h.len]; exact hx)]; rfl
    refine ⟨by rw [List.length_map, h.len], fun i j hi hj e => by rw [g i hi, g j hj, h.pe i j hi hj e], fun i j hi hj q => ?_, fun w wp wq i j hi hj e => ?_⟩
    · rw [g i hi, g j hj]
      rcases new i j q with q | ⟨rfl, rfl, _⟩
      · rw [h.qe i j hi hj q]
      · rw [if_pos rfl, if_neg c.2]
    · have R := h.rs w wp fun i j hi hj q => wq i j hi hj (sub i j q)
      have oa := wq o a ho ha (has c.1)
      rw [g i hi, g j hj] at e
      by_cases c1 : m.getD i 0 = m.getD a 0
      · rw [if_pos c1] at e
        by_cases c2 : m.getD j 0 = m.getD a 0
        · exact (R i a hi ha c1).trans (R j a hj ha c2).symm
        · rw [if_neg c2] at e
          exact (R i a hi ha c1).trans (oa.symm.trans (R o j ho hj e))
      · rw [if_neg c1] at e
        by_cases c2 : m.getD j 0 = m.getD a 0
        · rw [if_pos c2] at e
          exact (R i o hi ho e).trans (oa.trans (R j a hj ha c2).symm)
        · rw [if_neg c2] at e
          exact R i j hi hj e
  · rename_i c
    refine ⟨h.len, h.pe, fun i j hi hj q => ?_, fun w wp wq => h.rs w wp fun i j hi hj q => wq i j hi hj (sub i j q)⟩
    rcases new i j q with q | ⟨rfl, rfl, e⟩
    · exact h.qe i j hi hj q
    · exact Decidable.byContradiction fun ne => c ⟨e, ne⟩
theorem lrow_lm {n : Nat} {near far m : List Int} {a : Nat} (ha : a < n) (h : Lm n near (fun i j => i < j ∧ j < a ∧ far.getD i 0 = far.getD j 0) m) : ∀ k, k ≤ a → Lm n near (fun i j => (i < j ∧ j < a ∧ far.getD i 0 = far.getD j 0) ∨ (i < k ∧ j = a ∧ far.getD i 0 = far.getD j 0)) (lrow far a m k)
  | 0, _ => ⟨h.len, h.pe, fun i j hi hj q => h.qe i j hi hj (q.elim id fun q => by omega), fun w wp wq => h.rs w wp fun i j hi hj q => wq i j hi hj (.inl q)⟩
  | k + 1, hk => by
    refine lmk_lm (lrow_lm ha h k (by omega)) ha (by omega) (fun i j q => q.elim .inl fun q => .inr ⟨by omega, q.2⟩) (fun i j q => ?_) fun e => .inr ⟨by omega, rfl, e⟩
    rcases q with q | ⟨q1, q2, q3⟩
    · exact .inl (.inl q)
    · by_cases c : i = k
      · exact .inr ⟨c, q2, by rw [← c, ← q2]; exact q3⟩
      · exact .inl (.inr ⟨by omega, q2, q3⟩)
theorem lall_lm {n : Nat} {near far : List Int} (hn : near.length = n) : ∀ k, k ≤ n → Lm n near (fun i j => i < j ∧ j < k ∧ far.getD i 0 = far.getD j 0) (lall near far k)
  | 0, _ => ⟨hn, fun i j _ _ e => e, fun i j _ _ q => by omega, fun w wp _ => wp⟩
  | k + 1, hk => by
    have h := lrow_lm (far := far) (show k < n by omega) (lall_lm hn k (by omega)) k (Nat.le_refl _)
    refine ⟨h.len, h.pe, fun i j hi hj q => h.qe i j hi hj ?_, fun w wp wq => h.rs w wp fun i j hi hj q => wq i j hi hj ?_⟩
    · by_cases c : j = k
      · exact .inr ⟨by omega, c, q.2.2⟩
      · exact .inl ⟨q.1, by omega, q.2.2⟩
    · rcases q with q | q
      · exact ⟨q.1, by omega, q.2.2⟩
      · exact ⟨by omega, by omega, q.2.2⟩
def lots (n : Nat) (near far : List Int) : Nat := dn (lall near far n)
theorem lots_pq {n : Nat} {near far : List Int} (hn : near.length = n) : Pq n (fun i => near.getD i 0) (fun i => far.getD i 0) (fun i => (lall near far n).getD i 0) := by
  have h := lall_lm (far := far) hn n (Nat.le_refl _)
  refine ⟨h.pe, fun i j hi hj e => ?_, fun w wp wq => h.rs w wp fun i j hi hj q => wq i j hi hj q.2.2⟩
  rcases Nat.lt_trichotomy i j with c | c | c
  · exact h.qe i j hi hj ⟨c, hj, e⟩
  · rw [c]
  · exact (h.qe j i hj hi ⟨c, hi, e.symm⟩).symm
theorem list_range {n : Nat} {l : List Int} (hl : l.length = n) : l = (List.range n).map fun i => l.getD i 0 := by
  refine List.ext_getElem? fun j => ?_
  by_cases h : j < n
  · rw [List.getElem?_map, List.getElem?_range h, getD_some (by omega)]; rfl
  · rw [List.getElem?_eq_none (by omega), List.getElem?_eq_none (by rw [List.length_map, List.length_range]; omega)]
theorem lots_eq {n : Nat} {near far : List Int} (hn : near.length = n) : lots n near far = dn ((List.range n).map fun i => (lall near far n).getD i 0) := by
  unfold lots
  rw [← list_range (lall_lm (far := far) hn n (Nat.le_refl _)).len]
end Fig

/-! M16: rings by halves, by lists; figures of no rank. -/
namespace Fig
section
variable {n : Nat} {p q p' q' ν : Nat → Int}
theorem Pq.congr (h : Pq n p q ν) (hp : ∀ i j, i < n → j < n → (p i = p j ↔ p' i = p' j)) (hq : ∀ i j, i < n → j < n → (q i = q j ↔ q' i = q' j)) : Pq n p' q' ν :=
  ⟨fun i j hi hj e => h.pe i j hi hj ((hp i j hi hj).mpr e), fun i j hi hj e => h.qe i j hi hj ((hq i j hi hj).mpr e), fun w a b => h.rs w (fun i j hi hj e => a i j hi hj ((hp i j hi hj).mp e)) fun i j hi hj e => b i j hi hj ((hq i j hi hj).mp e)⟩
theorem dn_split {L : List Int} (P : Int → Bool) : dn L = dn (L.filter fun x => !P x) + dn (L.filter P) := by
  rw [← dn_app fun x hx hy => ?_]
  · refine dn_same fun x => ?_
    rw [List.mem_append, List.mem_filter, List.mem_filter]
    cases P x <;> simp
  · rw [List.mem_filter] at hx hy
    rw [hy.2] at hx
    exact absurd hx.2 (by decide)
/-- the values that hung goes through -/
def hv (n : Nat) (p q : List Int) : List Int := p.map (fo (hks n p q n))
def hbad (n : Nat) (p q op oq : List Int) : List Int := op.map (fo (hks n p q n)) ++ oq.map fun x => fo (hks n p q n) ((n : Int) + x)
def hrings (n : Nat) (p q op oq : List Int) : Nat := dn ((hv n p q).filter fun x => !decide (x ∈ hbad n p q op oq))
def hchains (n : Nat) (p q op oq : List Int) : Nat := dn ((hv n p q).filter fun x => decide (x ∈ hbad n p q op oq))
theorem hv_range {p q : List Int} (hp : p.length = n) : hv n p q = (List.range n).map (hl n p q) := by
  unfold hv hl
  exact (congrArg (List.map (fo (hks n p q n))) (list_range hp)).trans (List.map_map ..)
theorem hv_split (n : Nat) (p q op oq : List Int) : dn (hv n p q) = hrings n p q op oq + hchains n p q op oq := dn_split _
/-- the halves p, op and q, oq are those of E below and of F above -/
structure Hv (E F : Rl (Pt n)) (p q op oq : List Int) : Prop where
  lp : p.length = n
  lq : q.length = n
  bp : ∀ i, i < n → 0 ≤ p.getD i 0 ∧ p.getD i 0 < (n : Int)
  bq : ∀ i, i < n → 0 ≤ q.getD i 0 ∧ q.getD i 0 < (n : Int)
  en : Ends E F (fun i => p.getD i 0) (fun i => q.getD i 0)
  po : ∀ x, x ∈ op ↔ ∃ j : Fin n, x = p.getD j.val 0 ∧ ∃ t, E (.inl t) (.inr j)
  qo : ∀ x, x ∈ oq ↔ ∃ j : Fin n, x = q.getD j.val 0 ∧ ∃ b, F (.inr b) (.inl j)
theorem Hv.bad {E F : Rl (Pt n)} {p q op oq : List Int} (h : Hv E F p q op oq) (x : Int) : x ∈ hbad n p q op oq ↔ ∃ j : Fin n, x = hl n p q j.val ∧ Th E F j := by
  have H := hks_hk h.bp h.bq n (Nat.le_refl _)
  unfold hbad
  rw [List.mem_append, List.mem_map, List.mem_map]
  constructor
  · rintro (⟨y, m, e⟩ | ⟨y, m, e⟩)
    · obtain ⟨j, rfl, t⟩ := (h.po y).mp m
      exact ⟨j, e.symm, .inl t⟩
    · obtain ⟨j, rfl, t⟩ := (h.qo y).mp m
      exact ⟨j, e.symm.trans (H.jn j.val j.isLt).symm, .inr t⟩
  · rintro ⟨j, e, t | t⟩
    · exact .inl ⟨_, (h.po _).mpr ⟨j, rfl, t⟩, e.symm⟩
    · exact .inr ⟨_, (h.qo _).mpr ⟨j, rfl, t⟩, (H.jn j.val j.isLt).symm.trans e.symm⟩
theorem Hv.free {E F : Rl (Pt n)} {p q op oq : List Int} (hE : Eqv E) (hF : Eqv F) (h : Hv E F p q op oq) (i : Fin n) : Free E F i ↔ hl n p q i.val ∉ hbad n p q op oq := by
  rw [(hl_pq h.bp h.bq).free hE hF h.en, h.bad]
  exact ⟨fun no ⟨j, e, t⟩ => no j e t, fun no j e t => no ⟨j, e, t⟩⟩
theorem Hv.some {E F : Rl (Pt n)} {p q op oq : List Int} (hE : Eqv E) (hF : Eqv F) (h : Hv E F p q op oq) : ∃ I : List (Fin n), (∀ i, i ∈ I ↔ Free E F i) ∧ dn (I.map fun i => hl n p q i.val) = hrings n p q op oq := by
  classical
  refine ⟨(List.finRange n).filter fun i => decide (Free E F i), fun i => by simp, ?_⟩
  unfold hrings
  rw [hv_range h.lp]
  refine dn_same fun x => ?_
  rw [List.mem_map, List.mem_filter, List.mem_map]
  constructor
  · rintro ⟨i, m, e⟩
    have f := (h.free hE hF i).mp (of_decide_eq_true (List.mem_filter.mp m).2)
    rw [e] at f
    exact ⟨⟨i.val, List.mem_range.mpr i.isLt, e⟩, by rw [decide_eq_false f]; rfl⟩
  · rintro ⟨⟨i, m, e⟩, f⟩
    have hi := List.mem_range.mp m
    have f : x ∉ hbad n p q op oq := fun g => by rw [decide_eq_true g] at f; exact absurd f (by decide)
    rw [← e] at f
    exact ⟨⟨i, hi⟩, List.mem_filter.mpr ⟨List.mem_finRange _, decide_eq_true ((h.free hE hF ⟨i, hi⟩).mpr f)⟩, e⟩
theorem Hv.left {a b p q op oq : List Int} (fa : Fg n a) (fb : Fg n b) (h : Hv (kr n a) (kr n b) p q op oq) : hrings n p q op oq = left n a b := by
  obtain ⟨I, hI, e⟩ := h.some (kr_eqv a) (kr_eqv b)
  rw [← e]
  exact Lf.uniq ((hl_pq h.bp h.bq).lf (kr_eqv a) (kr_eqv b) h.en I hI) (left_Lf fa fb)
theorem Hv.rgs {a p q op oq : List Int} (fa : Fg n a) (h : Hv (kr n a) (kr n a) p q op oq) : hrings n p q op oq ≤ rgs n a ∧ rgs n a ≤ hrings n p q op oq + hchains n p q op oq := by
  obtain ⟨I, hI, e⟩ := h.some (kr_eqv a) (kr_eqv a)
  have Q := (hl_pq h.bp h.bq).congr (p' := fun i => a.getD (n + i) 0) (q' := fun i => a.getD i 0) (fun i j hi hj => (h.en.p ⟨i, hi⟩ ⟨j, hj⟩).trans (kr_get fa.len (.inr ⟨i, hi⟩) (.inr ⟨j, hj⟩))) (fun i j hi hj => (h.en.q ⟨i, hi⟩ ⟨j, hj⟩).trans (kr_get fa.len (.inl ⟨i, hi⟩) (.inl ⟨j, hj⟩)))
  refine ⟨?_, ?_⟩
  · rw [← e]
    exact free_le_rgs fa.len Q I fun i m => (hI i).mp m
  · rw [← hv_split, hv_range h.lp]
    exact rgs_le_all fa.len Q
end
/-! no rank -/
def zf (n : Nat) (near far : List Int) : List Int := nam (near ++ far.map fun x => (n : Int) + x)
section
variable {n : Nat} {near far : List Int}
structure Zr (n : Nat) (near far : List Int) : Prop where
  l1 : near.length = n
  l2 : far.length = n
  b1 : ∀ x ∈ near, 0 ≤ x ∧ x < (n : Int)
  b2 : ∀ x ∈ far, 0 ≤ x ∧ x < (n : Int)
theorem mem_getD {l : List Int} {i : Nat} (h : i < l.length) : l.getD i 0 ∈ l := by
  rw [List.getD_eq_getElem?_getD, List.getElem?_eq_getElem h]
  exact List.getElem_mem h
theorem zf_len (z : Zr n near far) : (near ++ far.map fun x => (n : Int) + x).length = 2 * n := by rw [List.length_append, List.length_map, z.l1, z.l2]; omega
theorem zf_fg (z : Zr n near far) : Fg n (zf n near far) := ⟨by unfold zf; rw [nam_len, zf_len z], nam_nam _⟩
theorem zf_lo (z : Zr n near far) {i : Nat} (h : i < n) : (near ++ far.map fun x => (n : Int) + x).getD i 0 = near.getD i 0 := by
  rw [List.getD_eq_getElem?_getD, List.getElem?_append_left (by rw [z.l1]; exact h), List.getD_eq_getElem?_getD]
theorem zf_hi (z : Zr n near far) {i : Nat} (h : i < n) : (near ++ far.map fun x => (n : Int) + x).getD (n + i) 0 = (n : Int) + far.getD i 0 := by
  rw [List.getD_eq_getElem?_getD, List.getElem?_append_right (by rw [z.l1]; omega), z.l1, show n + i - n = i by omega, List.getElem?_map, getD_some (by rw [z.l2]; exact h)]; rfl
theorem zf_kr (z : Zr n near far) (x y : Pt n) : kr n (zf n near far) x y ↔ (near ++ far.map fun x => (n : Int) + x).getD (pos x) 0 = (near ++ far.map fun x => (n : Int) + x).getD (pos y) 0 :=
  ((nam_ker _).eq _ _).trans (kr_get (zf_len z) x y)
theorem zf_tt (z : Zr n near far) (i j : Fin n) : kr n (zf n near far) (.inl i) (.inl j) ↔ near.getD i.val 0 = near.getD j.val 0 := by
  rw [zf_kr z]
  show (near ++ far.map fun x => (n : Int) + x).getD i.val 0 = (near ++ far.map fun x => (n : Int) + x).getD j.val 0 ↔ _
  rw [zf_lo z i.isLt, zf_lo z j.isLt]
theorem zf_bb (z : Zr n near far) (i j : Fin n) : kr n (zf n near far) (.inr i) (.inr j) ↔ far.getD i.val 0 = far.getD j.val 0 := by
  rw [zf_kr z]
  show (near ++ far.map fun x => (n : Int) + x).getD (n + i.val) 0 = (near ++ far.map fun x => (n : Int) + x).getD (n + j.val) 0 ↔ _
  rw [zf_hi z i.isLt, zf_hi z j.isLt]
  omega
theorem zf_tb (z : Zr n near far) (i j : Fin n) : ¬ kr n (zf n near far) (.inl i) (.inr j) := by
  rw [zf_kr z]
  show ¬ (near ++ far.map fun x => (n : Int) + x).getD i.val 0 = (near ++ far.map fun x => (n : Int) + x).getD (n + j.val) 0
  rw [zf_lo z i.isLt, zf_hi z j.isLt]
  have := z.b1 _ (mem_getD (i := i.val) (by rw [z.l1]; exact i.isLt))
  have := z.b2 _ (mem_getD (i := j.val) (by rw [z.l2]; exact j.isLt))
  omega
theorem zf_hv (z : Zr n near far) : Hv (kr n (zf n near far)) (kr n (zf n near far)) far near [] [] where
  lp := z.l2
  lq := z.l1
  bp := fun i h => z.b2 _ (mem_getD (by rw [z.l2]; exact h))
  bq := fun i h => z.b1 _ (mem_getD (by rw [z.l1]; exact h))
  en := ⟨fun i j => (zf_bb z i j).symm, fun i j => (zf_tt z i j).symm⟩
  po := fun x => ⟨fun m => (by cases m), fun ⟨j, _, t, r⟩ => (zf_tb z t j r).elim⟩
  qo := fun x => ⟨fun m => (by cases m), fun ⟨j, _, t, r⟩ => (zf_tb z j t ((kr_eqv _).symm r)).elim⟩
theorem zf_chains (n : Nat) (p q : List Int) : hchains n p q [] [] = 0 := by
  unfold hchains
  rw [List.filter_eq_nil_iff.mpr (fun x _ => by simp [hbad])]; rfl
theorem zf_left (z : Zr n near far) : left n (zf n near far) (zf n near far) = lots n near far := by
  have h := zf_hv z
  rw [← h.left (zf_fg z) (zf_fg z), lots_eq z.l1]
  have := hv_split n far near [] []
  rw [zf_chains, Nat.add_zero] at this
  rw [← this, hv_range h.lp]
  exact (hl_pq h.bp h.bq).count (lots_pq z.l1).swap
theorem zf_rgs (z : Zr n near far) : rgs n (zf n near far) = lots n near far := by
  have h := (zf_hv z).rgs (zf_fg z)
  rw [zf_chains, (zf_hv z).left (zf_fg z) (zf_fg z), zf_left z] at h
  omega
theorem zf_up (z : Zr n near far) : lup n (zf n near far) (zf n near far) = zf n near far := by
  have E := kr_eqv (n := n) (zf n near far)
  have fz := zf_fg z
  refine fg_eq ?_ fz fun x y => (lup_kr fz fz x y).trans ⟨fun c => ?_, fun r => ?_⟩
  · exact ⟨by unfold lup; rw [nam_len, kept_len (by rw [mks_len, lab_len fz.len fz.len])], by unfold lup; rw [nam_nam]⟩
  · have key : ∀ {a b : P3 n}, Cl (Three (kr n (zf n near far)) (kr n (zf n near far))) a b → ((∃ u, a = out u ∧ kr n (zf n near far) x u) ↔ ∃ u, b = out u ∧ kr n (zf n near far) x u) := fun {a b} c => by
      refine Cl.least (s := fun a b => (∃ u, a = out u ∧ kr n (zf n near far) x u) ↔ ∃ u, b = out u ∧ kr n (zf n near far) x u) ?_ (fun _ => Iff.rfl) (fun _ _ h => h.symm) (fun _ _ _ h k => h.trans k) c
      intro a b s
      have no : ∀ i : Fin n, ¬ ∃ u, (.inr (.inl i) : P3 n) = out u ∧ kr n (zf n near far) x u := fun i ⟨u, e, _⟩ => by cases u <;> cases e
      cases s with
      | @tt i j r => exact ⟨fun ⟨u, e, k⟩ => by cases u <;> cases e; exact ⟨.inl j, rfl, E.trans k r⟩, fun ⟨u, e, k⟩ => by cases u <;> cases e; exact ⟨.inl i, rfl, E.trans k (E.symm r)⟩⟩
      | tm r => exact (zf_tb z _ _ r).elim
      | mm r => exact ⟨fun h => (no _ h).elim, fun h => (no _ h).elim⟩
      | @fig u v r =>
        match u, v, r with
        | .inl u, .inl v, r => exact ⟨fun h => (no _ h).elim, fun h => (no _ h).elim⟩
        | .inl u, .inr v, r => exact (zf_tb z _ _ r).elim
        | .inr u, .inl v, r => exact (zf_tb z _ _ (E.symm r)).elim
        | .inr i, .inr j, r => exact ⟨fun ⟨u, e, k⟩ => by cases u <;> cases e; exact ⟨.inr j, rfl, E.trans k r⟩, fun ⟨u, e, k⟩ => by cases u <;> cases e; exact ⟨.inr i, rfl, E.trans k (E.symm r)⟩⟩
    obtain ⟨u, e, k⟩ := (key c).mp ⟨x, rfl, E.refl _⟩
    have : y = u := by cases y <;> cases u <;> cases e <;> rfl
    rw [this]; exact k
  · match x, y, r with
    | .inl i, .inl j, r => exact .one (.tt r)
    | .inl i, .inr j, r => exact (zf_tb z _ _ r).elim
    | .inr i, .inl j, r => exact (zf_tb z _ _ (E.symm r)).elim
    | .inr i, .inr j, r => exact .one (.fig r)
theorem zf_pw (z : Zr n near far) : ∀ k, pw n (zf n near far) (k + 1) = zf n near far
  | 0 => strt_lup (zf_fg z)
  | k + 1 => by
    show lup n (pw n (zf n near far) (k + 1)) (zf n near far) = _
    rw [zf_pw z k, zf_up z]
theorem zf_Tl (z : Zr n near far) : ∀ k, Tl n (zf n near far) (k + 1) = k * lots n near far
  | 0 => by rw [Tl_one (zf_fg z), Nat.zero_mul]
  | k + 1 => by
    show Tl n (zf n near far) (k + 1) + left n (pw n (zf n near far) (k + 1)) (zf n near far) = _
    rw [zf_Tl z k, zf_pw z k, zf_left z, Nat.succ_mul]
theorem zf_rd (hn : 1 ≤ n) (z : Zr n near far) : Rd n (zf n near far) 2 1 := by
  refine ⟨by omega, by omega, (zf_pw z 1).trans (zf_pw z 0).symm, fun i j h h2 e => ?_⟩
  have : i = 0 ∧ j = 1 := by omega
  rw [this.1, this.2, zf_pw z 0] at e
  have e : strt n = zf n near far := e
  refine zf_tb z ⟨0, by omega⟩ ⟨0, by omega⟩ ?_
  rw [← e, strt_kr]; rfl
theorem rd_uniq {fig : List Int} {m f m' f' : Nat} (r : Rd n fig m f) (r' : Rd n fig m' f') : m = m' ∧ f = f' := by
  have e : m = m' := by
    rcases Nat.lt_trichotomy m m' with c | c | c
    · exact (r'.ne f m r.lt c r.eq.symm).elim
    · exact c
    · exact (r.ne f' m' r'.lt c r'.eq.symm).elim
  subst e
  refine ⟨rfl, ?_⟩
  have q := r.eq.symm.trans r'.eq
  rcases Nat.lt_trichotomy f f' with c | c | c
  · exact (r.ne f f' c r'.lt q).elim
  · exact c
  · exact (r.ne f' f c r.lt q.symm).elim
end
end Fig

set_option maxRecDepth 100000
/-! C0: tools for what the defs compute. -/
namespace Z
open PySem (Str)
/-! ### calls that see no object -/
theorem reach_nil {h : Hip} {n : Nat} (hn : 0 < n) (acc : List Nat) : reach h n [] acc = acc := by
  cases n with
  | zero => omega
  | succ n => rfl
theorem reach_cons {h : Hip} {n : Nat} (hn : 0 < n) (a : Nat) (q acc : List Nat) : reach h n (a :: q) acc = if acc.contains a then reach h (n - 1) q acc else match h[a]? with
    | some o => reach h (n - 1) (q ++ refsO o) (acc ++ [a])
    | none => acc := by
  cases n with
  | zero => omega
  | succ n => rfl
theorem RF_pos : 0 < RF := by decide
mutual
theorem mapV_none {f : Nat → Option Nat} : ∀ {v : Val}, refsV v = [] → mapV f v = some v
  | .non, _ => by simp only [mapV]
  | .bl _, _ => by simp only [mapV]
  | .int _, _ => by simp only [mapV]
  | .str _, _ => by simp only [mapV]
  | .ref a, h => by simp only [refsV] at h; cases h
  | .tup xs, h => by simp only [refsV] at h; simp only [mapV]; rw [mapVs_none h]; rfl
  | .lv xs, h => by simp only [refsV] at h; simp only [mapV]; rw [mapVs_none h]; rfl
  | .ctp xs, h => by simp only [refsV] at h; simp only [mapV]; rw [mapVs_none h]; rfl
theorem mapVs_none {f : Nat → Option Nat} : ∀ {v : List Val}, refsVs v = [] → mapVs f v = some v
  | [], _ => by simp only [mapVs]
  | x :: xs, h => by
    simp only [refsVs, List.append_eq_nil_iff] at h
    simp only [mapVs]
    rw [mapV_none h.1, mapVs_none h.2]
end
theorem call_pure {P : Pg} {d f : Nat} {fd : FD} {vs : List Val} {v : Val} {ρ : Env} {g : Hip} (hf : P.fn f = some fd) (hl : vs.length = fd.np) (hv : refsVs vs = [])
    (hr : exSs P (callF P d) fd.body (vs.map some ++ List.replicate (fd.ns - fd.np) none) [] = .ok (.ret v, ρ) g) (nv : refsV v = []) (h : Hip) : callF P (d + 1) f vs h = .ok v h := by
  have e1 : enterC vs h = some ([], vs, []) := by
    unfold enterC
    simp only [hv, reach_nil RF_pos]
    rw [mapVs_none hv]
    rfl
  have e2 : runF P (callF P d) fd vs [] = .ok v g := by unfold runF; rw [hr]
  have e3 : leaveC [] v g h = .ok v h := by
    unfold leaveC
    simp only [nv, List.length_nil, List.take_zero, refsAll, List.append_nil, reach_nil RF_pos, List.filter_nil]
    rw [mapV_none nv]
    simp [takeO, putO]
  unfold callF
  rw [hf]
  simp only [hl, if_pos, e1, e2, e3]
/-- a call that sees the one list at a -/
theorem call_one {P : Pg} {d f a : Nat} {fd : FD} {o o' : Ob} {vs : List Val} {v : Val} {ρ : Env} {g h : Hip} (hf : P.fn f = some fd) (hl : vs.length + 1 = fd.np) (hv : refsVs vs = []) (ha : h[a]? = some o) (ho : refsO o = []) (hm : mapO (place [a]) o = some o)
    (hr : exSs P (callF P d) fd.body (some (.ref 0) :: vs.map some ++ List.replicate (fd.ns - fd.np) none) [o] = .ok (.ret v, ρ) (o' :: g) ∨ (exSs P (callF P d) fd.body (some (.ref 0) :: vs.map some ++ List.replicate (fd.ns - fd.np) none) [o] = .ok (.nx, ρ) (o' :: g) ∧ v = .non))
    (nv : refsV v = []) (no : refsO o' = []) (hm' : mapO (backTo [a] [] h.length) o' = some o') : callF P (d + 1) f (.ref a :: vs) h = .ok v (h.set a o') := by
  have e1 : enterC (.ref a :: vs) h = some ([a], .ref 0 :: vs, [o]) := by
    unfold enterC
    have r : refsVs (.ref a :: vs) = [a] := by simp only [refsVs, refsV, hv]; rfl
    have rc : reach h RF [a] [] = [a] := by
      rw [reach_cons RF_pos]
      simp only [List.contains_nil, if_neg Bool.false_ne_true, ha, ho, List.append_nil, List.nil_append]
      rw [reach_nil (by decide)]
    simp only [r, rc]
    have p0 : place [a] a = some 0 := by simp [place, List.idxOf?]
    simp only [mapVs, mapV, p0, Option.map_some, mapVs_none hv, takeO, ha, Option.bind_some, hm]
  have e2 : runF P (callF P d) fd (.ref 0 :: vs) [o] = .ok v (o' :: g) := by
    unfold runF
    rcases hr with hr | ⟨hr, rfl⟩
    · rw [show (Val.ref 0 :: vs).map some = some (.ref 0) :: vs.map some from rfl, hr]
    · rw [show (Val.ref 0 :: vs).map some = some (.ref 0) :: vs.map some from rfl, hr]
  have e3 : leaveC [a] v (o' :: g) h = .ok v (h.set a o') := by
    unfold leaveC
    simp only [nv, List.length_cons, List.length_nil, Nat.zero_add, List.take_succ_cons, List.take_zero, refsAll, no, List.append_nil, reach_nil RF_pos, List.filter_nil]
    rw [mapV_none nv]
    simp [takeO, putO, List.range_succ, hm']
  unfold callF
  rw [hf]
  have hl' : (Val.ref a :: vs).length = fd.np := by rw [List.length_cons]; exact hl
  simp only [hl', if_pos, e1, e2, e3]
/-! ### lists of ints -/
def vI (l : List Int) : List Val := l.map .int
@[simp] theorem vI_nil : vI [] = [] := rfl
@[simp] theorem vI_cons (x : Int) (l : List Int) : vI (x :: l) = .int x :: vI l := rfl
@[simp] theorem vI_len (l : List Int) : (vI l).length = l.length := List.length_map _
@[simp] theorem vI_get (l : List Int) (i : Nat) : (vI l)[i]? = (l[i]?).map .int := List.getElem?_map
@[simp] theorem vI_app (l m : List Int) : vI (l ++ m) = vI l ++ vI m := List.map_append
theorem vI_set (l : List Int) (i : Nat) (x : Int) : (vI l).set i (.int x) = vI (l.set i x) := by unfold vI; rw [List.map_set]
@[simp] theorem vI_refs : ∀ l : List Int, refsVs (vI l) = []
  | [] => by simp only [vI_nil, refsVs]
  | x :: l => by simp only [vI_cons, refsVs, refsV, vI_refs l, List.append_nil]
theorem vI_map (f : Nat → Option Nat) (l : List Int) : mapVs f (vI l) = some (vI l) := mapVs_none (vI_refs l)
@[simp] theorem ints_vI : ∀ l : List Int, ints? (vI l) = some l
  | [] => by simp only [vI_nil, ints?]
  | x :: l => by simp only [vI_cons, ints?, ints_vI l, Option.map_some]
theorem vI_inj {l m : List Int} (h : vI l = vI m) : l = m := by
  have := congrArg ints? h
  rw [ints_vI, ints_vI] at this
  exact Option.some.inj this
/-! ### equality -/
theorem dats_len : ∀ l : List Val, (dats l).length = l.length
  | [] => by rw [dats_nil]; rfl
  | x :: l => by rw [dats_cons, List.length_cons, dats_len l, List.length_cons]
theorem eqvAll_vI : ∀ l m : List Int, PySem.PyData.eqvAll (dats (vI l)) (dats (vI m)) = decide (l = m)
  | [], [] => by simp only [vI_nil, dats_nil, PySem.PyData.eqvAll]; rfl
  | [], y :: m => by simp only [vI_nil, vI_cons, dats_nil, dats_cons, PySem.PyData.eqvAll]; rfl
  | x :: l, [] => by simp only [vI_nil, vI_cons, dats_nil, dats_cons, PySem.PyData.eqvAll]; rfl
  | x :: l, y :: m => by
    simp only [vI_cons, dats_cons, PySem.PyData.eqvAll, dat, PySem.PyData.eqv, eqvAll_vI l m]
    by_cases h : x = y
    · subst h
      by_cases h2 : l = m
      · subst h2; simp
      · simp [h2]
    · simp [h]
theorem canLay_vI : ∀ l : List Int, PySem.PyData.canLayAll0 (dats (vI l)) = true
  | [] => by simp only [vI_nil, dats_nil, PySem.PyData.canLayAll0]
  | x :: l => by simp only [vI_cons, dats_cons, PySem.PyData.canLayAll0, dat, PySem.PyData.canLay0, canLay_vI l, Bool.true_and]
theorem depth_vI : ∀ l : List Int, PySem.PyData.depthAll (dats (vI l)) = 0
  | [] => by simp only [vI_nil, dats_nil, PySem.PyData.depthAll]
  | x :: l => by simp only [vI_cons, dats_cons, PySem.PyData.depthAll, dat, PySem.PyData.depth, depth_vI l]; rfl
@[simp] theorem shallow_int (i : Int) : shallow (.int i) = true := by
  unfold shallow PySem.SeqAt.shaped
  simp only [dat, PySem.PyData.canLay0, PySem.PyData.depth]
  rfl
@[simp] theorem shallow_tup (l : List Int) : shallow (.tup (vI l)) = true := by
  unfold shallow PySem.SeqAt.shaped
  simp only [dat, PySem.PyData.canLay0, PySem.PyData.depth, canLay_vI, depth_vI]
  rfl
@[simp] theorem shallow_lv (l : List Int) : shallow (.lv (vI l)) = true := by
  unfold shallow PySem.SeqAt.shaped
  simp only [dat, PySem.PyData.canLay0, PySem.PyData.depth, canLay_vI, depth_vI]
  rfl
mutual
theorem deepW_none {rec : Nat → Option Val} : ∀ {v : Val}, refsV v = [] → (∀ xs, v ≠ .ctp xs) → (∀ xs, v ≠ .tup xs) → (∀ xs, v ≠ .lv xs) → deepW rec v = some v
  | .non, _, _, _, _ => by simp only [deepW]
  | .bl _, _, _, _, _ => by simp only [deepW]
  | .int _, _, _, _, _ => by simp only [deepW]
  | .str _, _, _, _, _ => by simp only [deepW]
  | .ref a, h, _, _, _ => by simp only [refsV] at h; cases h
  | .tup xs, _, _, h, _ => (h xs rfl).elim
  | .lv xs, _, _, _, h => (h xs rfl).elim
  | .ctp xs, _, h, _, _ => (h xs rfl).elim
end
theorem deepWs_vI {rec : Nat → Option Val} : ∀ l : List Int, deepWs rec (vI l) = some (vI l)
  | [] => by simp only [vI_nil, deepWs]
  | x :: l => by simp only [vI_cons, deepWs, deepW, deepWs_vI l, Option.map_some]
@[simp] theorem deep_int (h : Hip) (i : Int) : deep h (.int i) = some (.int i) := by unfold deep; simp only [deepW]
@[simp] theorem deep_tup (h : Hip) (l : List Int) : deep h (.tup (vI l)) = some (.tup (vI l)) := by unfold deep; simp only [deepW, deepWs_vI, Option.map_some]
@[simp] theorem deep_lv (h : Hip) (l : List Int) : deep h (.lv (vI l)) = some (.lv (vI l)) := by unfold deep; simp only [deepW, deepWs_vI, Option.map_some]
theorem deep_ref {h : Hip} {a : Nat} {l : List Int} (e : h[a]? = some (.lst (vI l))) : deep h (.ref a) = some (.lv (vI l)) := by
  unfold deep
  simp only [deepW]
  unfold deepN
  rw [e]
  simp only [deepWs_vI, Option.map_some]
@[simp] theorem eq_int (h : Hip) (i j : Int) : eqOp h (.int i) (.int j) = some (decide (i = j)) := by
  unfold eqOp
  simp only [deep_int, shallow_int, Bool.and_self, if_pos]
  unfold peq
  simp only [dat, PySem.PyData.eqv]
  rw [Bool.beq_eq_decide_eq]
@[simp] theorem eq_tup (h : Hip) (l m : List Int) : eqOp h (.tup (vI l)) (.tup (vI m)) = some (decide (l = m)) := by
  unfold eqOp
  simp only [deep_tup, shallow_tup, Bool.and_self, if_pos]
  unfold peq
  simp only [dat, PySem.PyData.eqv, eqvAll_vI]
theorem eq_lst {h : Hip} {a b : Nat} {l m : List Int} (e1 : h[a]? = some (.lst (vI l))) (e2 : h[b]? = some (.lst (vI m))) : eqOp h (.ref a) (.ref b) = some (decide (l = m)) := by
  unfold eqOp
  simp only [deep_ref e1, deep_ref e2, shallow_lv, Bool.and_self, if_pos]
  unfold peq
  simp only [dat, PySem.PyData.eqv, eqvAll_vI]
end Z

set_option maxRecDepth 100000
/-! C1: tools for loops. -/
namespace Z
open PySem (Str)
theorem forL_fold {k : Wk} {f : Val → Env → Hip → Res (Flow × Env)} {S : Type} {E : S → Env} {Hh : S → Hip} {g : S → Val → S} {Inv : S → Prop} (hat : ∀ s i, Inv s → k.at i (Hh s) = true) :
    ∀ (xs : List Val) (i : Nat) (s : S), Inv s → (∀ s x, Inv s → x ∈ xs → f x (E s) (Hh s) = .ok (.nx, E (g s x)) (Hh (g s x)) ∧ Inv (g s x)) →
      forL k f i xs (E s) (Hh s) = .ok (.nx, E (xs.foldl g s)) (Hh (xs.foldl g s)) ∧ Inv (xs.foldl g s)
  | [], i, s, hs, _ => by
    unfold forL
    rw [if_pos (hat s i hs)]
    exact ⟨rfl, hs⟩
  | x :: xs, i, s, hs, st => by
    obtain ⟨e, h2⟩ := st s x hs List.mem_cons_self
    unfold forL
    rw [if_pos (hat s i hs), e]
    exact forL_fold hat xs (i + 1) (g s x) h2 fun s y a m => st s y a (List.mem_cons_of_mem _ m)
theorem lcL_map {k : Wk} {f : Val → Hip → Res (Option Val)} {φ : Val → Option Val} {h : Hip} (hat : ∀ i, k.at i h = true) :
    ∀ (xs acc : List Val) (i : Nat), (∀ x ∈ xs, f x h = .ok (φ x) h) → acc.length + xs.length < 16777216 → lcL k f i xs acc h = .ok (acc ++ xs.filterMap φ) h
  | [], acc, i, _, _ => by
    unfold lcL
    rw [if_pos (hat i), List.filterMap_nil, List.append_nil]
  | x :: xs, acc, i, st, sz => by
    rw [List.length_cons] at sz
    unfold lcL
    rw [if_pos (hat i), st x List.mem_cons_self]
    cases e : φ x with
    | some y =>
      have ft : fits acc.length = true := decide_eq_true (by show acc.length < 16777216; omega)
      simp only [ft, if_pos]
      rw [lcL_map hat xs (acc ++ [y]) (i + 1) (fun z m => st z (List.mem_cons_of_mem _ m)) (by rw [List.length_append, List.length_singleton]; omega), List.filterMap_cons_some e, List.append_assoc]
      rfl
    | none =>
      simp only []
      rw [lcL_map hat xs acc (i + 1) (fun z m => st z (List.mem_cons_of_mem _ m)) (by omega), List.filterMap_cons_none e]
theorem fits_of {n : Nat} (h : n < 16777216) : fits n = true := decide_eq_true h
@[simp] theorem at_none (xs : List Val) (i : Nat) (h : Hip) : (Wk.mk xs none).at i h = true := rfl
theorem at_src {xs : List Val} {a : Nat} {h : Hip} (e : h[a]? = some (.lst xs)) (i : Nat) : (Wk.mk xs (some a)).at i h = true := by
  unfold Wk.at
  rw [show (Wk.mk xs (some a)).src = some a from rfl]
  simp only [e]
  simp
end Z

set_option maxRecDepth 100000
/-! C2: small steps as equations. -/
namespace Z
open PySem (Str)
section
variable {P : Pg} {cf : CF} {ρ ρ' : Env} {h h1 h2 h3 : Hip}
theorem x_ret {e : IE} {v : Val} (he : evE P cf e ρ h = .ok v h1) : exSs P cf (.cons (.ret e) .nil) ρ h = .ok (.ret v, ρ) h1 := by
  simp only [exSs, exS, he, Res.bind]
theorem x_cons {s : IS} {ss : ISs} (hs : exS P cf s ρ h = .ok (.nx, ρ') h1) : exSs P cf (.cons s ss) ρ h = exSs P cf ss ρ' h1 := by
  simp only [exSs, hs, Res.bind]
theorem e_1 {b : Bi} {e : IE} {v : Val} {r : Res Val} (he : evE P cf e ρ h = .ok v h1) (hb : biOp b [v] h1 = r) : evE P cf (.bi b (.cons e .nil)) ρ h = r := by
  simp only [evE, evEs, he, Res.bind, hb]
theorem e_2 {o : Op2} {a b : IE} {x y : Val} {r : Res Val} (ha : evE P cf a ρ h = .ok x h1) (hb : evE P cf b ρ h1 = .ok y h2) (ho : binOp o x y h2 = r) : evE P cf (.bin o a b) ρ h = r := by
  simp only [evE, ha, hb, Res.bind, ho]
theorem q5 {a : Nat} {h : Hip} {xs : List Val} {j : Int} (ha : h[a]? = some (.lst xs)) : binOp .mul (.ref a) (.int j) h = if decide (0 ≤ j) && decide (j < 16777216) && fits (xs.length * j.toNat) then alloc (.lst (repl xs j.toNat)) h else .bad := by
  unfold binOp
  simp only [ha]
theorem mulN {a : Nat} {h : Hip} {xs : List Val} {k : Nat} (ha : h[a]? = some (.lst xs)) (h1 : k < 16777216) (h2 : xs.length * k < 16777216) : binOp .mul (.ref a) (.int k) h = alloc (.lst (repl xs k)) h := by
  have c1 : decide (0 ≤ (k : Int)) = true := decide_eq_true (by omega)
  have c2 : decide ((k : Int) < 16777216) = true := decide_eq_true (by omega)
  rw [q5 ha, c1, c2, Int.toNat_natCast, fits_of h2]
  rfl
theorem mul2 {a : Nat} {h : Hip} {xs : List Val} (ha : h[a]? = some (.lst xs)) (hx : xs.length < 1000) : binOp .mul (.ref a) (.int 2) h = alloc (.lst (xs ++ xs)) h := by
  have := mulN (k := 2) ha (by omega) (by omega)
  have e : repl xs 2 = xs ++ xs := by
    show xs ++ (xs ++ []) = _
    rw [List.append_nil]
  rw [e] at this
  exact this
theorem rng_vI : ∀ (n lo : Nat), rng (lo : Int) n = vI ((List.range' lo n).map fun i : Nat => (i : Int))
  | 0, _ => rfl
  | n + 1, lo => by
    rw [List.range'_succ, List.map_cons, vI_cons]
    show Val.int lo :: rng ((lo : Int) + 1) n = _
    rw [show (lo : Int) + 1 = ((lo + 1 : Nat) : Int) by omega, rng_vI n (lo + 1)]
theorem rng0 (n : Nat) : rng 0 n = vI ((List.range n).map fun i : Nat => (i : Int)) := by
  rw [List.range_eq_range']
  exact rng_vI n 0
theorem small_nat {n : Nat} (hn : n < 1000) : small (n : Int) = true := by simp [small]; omega
theorem range_nat {n : Nat} (hn : n < 1000) : rangeOf [.int n] = some (vI ((List.range n).map fun i : Nat => (i : Int))) := by
  rw [range1, if_pos (small_nat hn), Int.toNat_natCast, rng0]
theorem lr_gen {e : IE} {v : Val} {xs : List Val} (he : evE P cf e ρ h = .ok v h1) (hr : rangeOf [v] = some xs) (hf : fits xs.length = true) : evE P cf (.lrange (.cons e .nil)) ρ h = alloc (.lst xs) h1 := by
  simp only [evE, evEs, he, Res.bind, hr, hf, if_pos]
theorem e_lr {n : Nat} (hn : n < 1000) {e : IE} (he : evE P cf e ρ h = .ok (.int n) h) : evE P cf (.lrange (.cons e .nil)) ρ h = alloc (.lst (vI ((List.range n).map fun i : Nat => (i : Int)))) h :=
  lr_gen he (range_nat hn) (by rw [vI_len, List.length_map, List.length_range]; exact fits_of (by omega))
theorem tup_ref {a : Nat} {xs : List Val} (ha : h[a]? = some (.lst xs)) : biOp .tupleOf [.ref a] h = .ok (.tup xs) h := by
  show fTuple [.ref a] h = _
  simp only [fTuple, seqOf, ha, ok?]
end
end Z

set_option maxRecDepth 100000
/-! C3: more steps as equations. -/
namespace Z
open PySem (Str)
def dropS : Nat → ISs → ISs
  | 0, b => b
  | n + 1, .cons _ b => dropS n b
  | _ + 1, .nil => .nil
section
variable {P : Pg} {cf : CF} {ρ ρ' : Env} {h h1 h2 h3 : Hip}
theorem x_at {n : Nat} {b : ISs} {s : IS} {ss : ISs} (e : dropS n b = .cons s ss) {r : Res (Flow × Env)} (hs : exS P cf s ρ h = .ok (.nx, ρ') h1) (e2 : dropS (n + 1) b = ss) (hr : exSs P cf (dropS (n + 1) b) ρ' h1 = r) : exSs P cf (dropS n b) ρ h = r := by
  rw [e, x_cons hs, ← e2, hr]
theorem s_asg {t : Tg} {e : IE} {v : Val} (he : evE P cf e ρ h = .ok v h1) (ht : setT t v ρ = some ρ') : exS P cf (.asg t e) ρ h = .ok (.nx, ρ') h1 := by
  simp only [exS, he, Res.bind, ht, ok?]
theorem s_loop {t : Tg} {it : IIt} {b : ISs} {k : Wk} {r : Res (Flow × Env)} (hk : evI P cf it ρ h = .ok k h1) (hr : forL k (loopStep t (exSs P cf b)) 0 k.items ρ h1 = r) : exS P cf (.loop t it b) ρ h = r := by
  simp only [exS, hk, Res.bind, hr]
theorem s_expr {e : IE} {v : Val} (he : evE P cf e ρ h = .ok v h1) : exS P cf (.expr e) ρ h = .ok (.nx, ρ) h1 := by
  simp only [exS, he, Res.bind]
theorem s_aug {i : Nat} {o : Op2} {e : IE} {x y z : Val} (hx : ρ[i]? = some (some x)) (he : evE P cf e ρ h = .ok y h1) (ho : augOp o x y h1 = .ok z h2) : exS P cf (.aug i o e) ρ h = .ok (.nx, ρ.set i (some z)) h2 := by
  simp only [exS, hx, he, Res.bind, ho]
theorem s_ifT {c : IE} {a b : ISs} {r : Res (Flow × Env)} (hc : evE P cf c ρ h = .ok (.bl true) h1) (hr : exSs P cf a ρ h1 = r) : exS P cf (.cond c a b) ρ h = r := by
  simp only [exS, hc, Res.bind, hr]
theorem s_ifF {c : IE} {a b : ISs} {r : Res (Flow × Env)} (hc : evE P cf c ρ h = .ok (.bl false) h1) (hr : exSs P cf b ρ h1 = r) : exS P cf (.cond c a b) ρ h = r := by
  simp only [exS, hc, Res.bind, hr]
theorem ec_lc {own : List Nat} {t : Tg} {it : IIt} {c : IO} {e : IE} {k : Wk} {acc : List Val} (hk : evI P cf it ρ h = .ok k h1) (hl : lcL k (compStep t (wipes ρ own) (evC P cf c) (evE P cf e)) 0 k.items [] h1 = .ok acc h2) : evE P cf (.lc own t it c e) ρ h = alloc (.lst acc) h2 := by
  simp only [evE, hk, Res.bind, hl]
theorem ec_sc {own : List Nat} {t : Tg} {it : IIt} {c : IO} {e : IE} {k : Wk} {acc : List Int} (hk : evI P cf it ρ h = .ok k h1) (hl : scL k (compStep t (wipes ρ own) (evC P cf c) (evE P cf e)) 0 k.items [] h1 = .ok acc h2) : evE P cf (.sc own t it c e) ρ h = alloc (.set acc) h2 := by
  simp only [evE, hk, Res.bind, hl]
theorem i_seq {e : IE} {v : Val} {k : Wk} (he : evE P cf e ρ h = .ok v h1) (hk : walkOf h1 v = some k) : evI P cf (.seq e) ρ h = .ok k h1 := by
  simp only [evI, he, Res.bind, hk, ok?, id]
theorem i_range {es : IEs} {vs : List Val} {xs : List Val} (he : evEs P cf es ρ h = .ok vs h1) (hk : rangeOf vs = some xs) : evI P cf (.range es) ρ h = .ok ⟨xs, none⟩ h1 := by
  simp only [evI, he, Res.bind, hk, ok?]
theorem es_nil : evEs P cf .nil ρ h = .ok [] h := by simp only [evEs]
theorem es_cons {e : IE} {es : IEs} {v : Val} {vs : List Val} (he : evE P cf e ρ h = .ok v h1) (hs : evEs P cf es ρ h1 = .ok vs h2) : evEs P cf (.cons e es) ρ h = .ok (v :: vs) h2 := by
  simp only [evEs, he, Res.bind, hs]
theorem e_var {i : Nat} {v : Val} (hv : ρ[i]? = some (some v)) : evE P cf (.var i) ρ h = .ok v h := by
  simp only [evE, hv]
theorem e_con {v : Val} : evE P cf (.con v) ρ h = .ok v h := by simp only [evE]
theorem ec_call {f : Nat} {es : IEs} {vs : List Val} {r : Res Val} (he : evEs P cf es ρ h = .ok vs h1) (hr : cf f vs h1 = r) : evE P cf (.call f es) ρ h = r := by
  simp only [evE, he, Res.bind, hr]
theorem e_tup {es : IEs} {vs : List Val} (he : evEs P cf es ρ h = .ok vs h1) (hf : fits vs.length = true) : evE P cf (.tup es) ρ h = .ok (.tup vs) h1 := by
  simp only [evE, he, Res.bind, hf, if_pos]
theorem e_lst {es : IEs} {vs : List Val} (he : evEs P cf es ρ h = .ok vs h1) (hf : fits vs.length = true) : evE P cf (.lst es) ρ h = alloc (.lst vs) h1 := by
  simp only [evE, he, Res.bind, hf, if_pos]
theorem e_ix {a b : IE} {x y v : Val} (ha : evE P cf a ρ h = .ok x h1) (hb : evE P cf b ρ h1 = .ok y h2) (hv : ixOp x y h2 = some v) : evE P cf (.ix a b) ρ h = .ok v h2 := by
  simp only [evE, ha, hb, Res.bind, hv, ok?, id]
theorem e_cmp {o : Cop} {a b : IE} {x y : Val} {t : Bool} (ha : evE P cf a ρ h = .ok x h1) (hb : evE P cf b ρ h1 = .ok y h2) (hv : cmpOp o x y h2 = some t) : evE P cf (.cmp o a b) ρ h = .ok (.bl t) h2 := by
  simp only [evE, ha, hb, Res.bind, hv, ok?]
theorem e_slLo {a b : IE} {x y : Val} {r : Res Val} (ha : evE P cf a ρ h = .ok x h1) (hb : evE P cf b ρ h1 = .ok y h2) (hv : slOp x (some y) none h2 = r) : evE P cf (.sl a (.so b) .no) ρ h = r := by
  simp only [evE, evO, ha, hb, Res.bind, hv]
theorem e_slHi {a b : IE} {x y : Val} {r : Res Val} (ha : evE P cf a ρ h = .ok x h1) (hb : evE P cf b ρ h1 = .ok y h2) (hv : slOp x none (some y) h2 = r) : evE P cf (.sl a .no (.so b)) ρ h = r := by
  simp only [evE, evO, ha, hb, Res.bind, hv]
theorem e_bm {b : Bm} {o e : IE} {a : Nat} {xs : List Val} {y : Val} {r : Res Val} (ho : evE P cf o ρ h = .ok (.ref a) h1) (ha : h1[a]? = some (.lst xs)) (he : evE P cf e ρ h1 = .ok y h2) (hv : bmOp b (.ref a) [y] h2 = r) : evE P cf (.bm b o (.cons e .nil)) ρ h = r := by
  simp only [evE, evEs, ho, ha, he, Res.bind, hv]
theorem add_int {a b : Int} {h : Hip} : binOp .add (.int a) (.int b) h = .ok (.int (a + b)) h := rfl
theorem sub_int {a b : Int} {h : Hip} : binOp .sub (.int a) (.int b) h = .ok (.int (a - b)) h := rfl
theorem mul_int {a b : Int} {h : Hip} (m : mulOk a b = true) : binOp .mul (.int a) (.int b) h = .ok (.int (a * b)) h := by
  show (if mulOk a b = true then _ else _) = _
  rw [if_pos m]
theorem mulOk_l {a b : Int} (h0 : a.natAbs < 18446744073709551616) : mulOk a b = true := by
  unfold mulOk; rw [decide_eq_true h0]; rfl
theorem mulOk_r {a b : Int} (h0 : b.natAbs < 18446744073709551616) : mulOk a b = true := by
  unfold mulOk; rw [decide_eq_true h0, Bool.or_true]
theorem mod_int {a b : Int} {h : Hip} (m : 0 < b) : binOp .mod (.int a) (.int b) h = .ok (.int (a % b)) h := by
  show (if decide (0 < b) = true then _ else _) = _
  rw [if_pos (decide_eq_true m)]
theorem fdiv_int {a b : Int} {h : Hip} (m : 0 < b) (m2 : b < 1073741824) : binOp .fdiv (.int a) (.int b) h = .ok (.int (a / b)) h := by
  show (if (decide (0 < b) && decide (b < 1073741824)) = true then _ else _) = _
  rw [decide_eq_true m, decide_eq_true m2]; rfl
end
end Z

set_option maxRecDepth 100000
/-! C4: calls that see three objects; calls that make objects. -/
namespace Z
open PySem (Str)
theorem cnt1 {a b : Nat} (h : a ≠ b) : [a].contains b = false := by
  simp only [List.contains_cons, List.contains_nil, Bool.or_false]
  exact beq_eq_false_iff_ne.mpr (Ne.symm h)
theorem cnt2 {a b c : Nat} (h : a ≠ c) (h2 : b ≠ c) : [a, b].contains c = false := by
  simp only [List.contains_cons, List.contains_nil, Bool.or_false]
  rw [beq_eq_false_iff_ne.mpr (Ne.symm h), beq_eq_false_iff_ne.mpr (Ne.symm h2)]; rfl
theorem place3a {a b c : Nat} : place [a, b, c] a = some 0 := by simp [place, List.idxOf?, List.findIdx?_cons]
theorem place3b {a b c : Nat} (h : a ≠ b) : place [a, b, c] b = some 1 := by simp [place, List.idxOf?, List.findIdx?_cons, h]
theorem place3c {a b c : Nat} (h : a ≠ c) (h2 : b ≠ c) : place [a, b, c] c = some 2 := by simp [place, List.idxOf?, List.findIdx?_cons, h, h2]
theorem reach3 {h : Hip} {a b c : Nat} {o p q : Ob} (ab : a ≠ b) (ac : a ≠ c) (bc : b ≠ c) (ha : h[a]? = some o) (hb : h[b]? = some p) (hc : h[c]? = some q) (ro : refsO o = [b, c]) (rp : refsO p = []) (rq : refsO q = []) : reach h RF [a] [] = [a, b, c] := by
  rw [reach_cons RF_pos]
  simp only [List.contains_nil, if_neg Bool.false_ne_true, ha, ro, List.nil_append]
  rw [reach_cons (by decide), if_neg (by rw [cnt1 ab]; exact Bool.false_ne_true)]
  simp only [hb, rp, List.append_nil]
  rw [reach_cons (by decide), if_neg (by rw [show [a] ++ [b] = [a, b] from rfl, cnt2 ac bc]; exact Bool.false_ne_true)]
  simp only [hc, rq, List.append_nil]
  rw [reach_nil (by decide)]
  rfl
theorem mapO_none {f : Nat → Option Nat} : ∀ {o : Ob}, refsO o = [] → (∀ kvs, o ≠ .dct kvs) → (∀ c fs, o ≠ .ins c fs) → mapO f o = some o
  | .lst xs, h, _, _ => by simp only [refsO] at h; simp only [mapO, mapVs_none h, Option.map_some]
  | .set xs, _, _, _ => rfl
  | .dct kvs, _, h, _ => (h kvs rfl).elim
  | .ins c fs, _, _, h => (h c fs rfl).elim
theorem lst_map {f : Nat → Option Nat} {xs : List Val} (h : refsVs xs = []) : mapO f (.lst xs) = some (.lst xs) := by
  simp only [mapO, mapVs_none h, Option.map_some]
/-- what a call that sees three objects gives back -/
theorem call3 {P : Pg} {d f a b c : Nat} {fd : FD} {o o0 o0' o' : Ob} {ps qs ps' qs' : List Val} {vs : List Val} {v : Val} {ρ : Env} {g h : Hip} (hf : P.fn f = some fd) (hl : vs.length + 1 = fd.np) (hv : refsVs vs = [])
    (ab : a ≠ b) (ac : a ≠ c) (bc : b ≠ c) (ha : h[a]? = some o) (hb : h[b]? = some (.lst ps)) (hc : h[c]? = some (.lst qs)) (ro : refsO o = [b, c]) (rp : refsVs ps = []) (rq : refsVs qs = []) (hm : mapO (place [a, b, c]) o = some o0)
    (hr : exSs P (callF P d) fd.body (some (.ref 0) :: vs.map some ++ List.replicate (fd.ns - fd.np) none) [o0, .lst ps, .lst qs] = .ok (.ret v, ρ) (o0' :: .lst ps' :: .lst qs' :: g))
    (nv : refsV v = []) (ro' : refsO o0' = [1, 2]) (rp' : refsVs ps' = []) (rq' : refsVs qs' = []) (hm' : mapO (backTo [a, b, c] [] h.length) o0' = some o') :
    callF P (d + 1) f (.ref a :: vs) h = .ok v (((h.set a o').set b (.lst ps')).set c (.lst qs')) := by
  have e1 : enterC (.ref a :: vs) h = some ([a, b, c], .ref 0 :: vs, [o0, .lst ps, .lst qs]) := by
    unfold enterC
    have r : refsVs (.ref a :: vs) = [a] := by simp only [refsVs, refsV, hv]; rfl
    simp only [r, reach3 ab ac bc ha hb hc ro rp rq]
    simp only [mapVs, mapV, place3a, Option.map_some, mapVs_none hv, takeO, ha, hb, hc, Option.bind_some, hm, lst_map rp, lst_map rq]
  have e2 : runF P (callF P d) fd (.ref 0 :: vs) [o0, .lst ps, .lst qs] = .ok v (o0' :: .lst ps' :: .lst qs' :: g) := by
    unfold runF
    rw [show (Val.ref 0 :: vs).map some = some (.ref 0) :: vs.map some from rfl, hr]
  have e3 : leaveC [a, b, c] v (o0' :: .lst ps' :: .lst qs' :: g) h = .ok v (((h.set a o').set b (.lst ps')).set c (.lst qs')) := by
    unfold leaveC
    have rr : reach (o0' :: .lst ps' :: .lst qs' :: g) RF [1, 2] [] = [1, 2] := by
      rw [reach_cons RF_pos]
      simp only [List.contains_nil, if_neg Bool.false_ne_true, List.getElem?_cons_succ, List.getElem?_cons_zero, refsO, rp', List.append_nil, List.nil_append]
      rw [reach_cons (by decide), if_neg (by decide)]
      simp only [List.getElem?_cons_succ, List.getElem?_cons_zero, refsO, rq', List.append_nil]
      rw [reach_nil (by decide)]
      rfl
    have tk : refsAll ((o0' :: .lst ps' :: .lst qs' :: g).take 3) = [1, 2] := by
      show refsO o0' ++ (refsVs ps' ++ (refsVs qs' ++ [])) = _
      rw [ro', rp', rq']; rfl
    have fl : [1, 2].filter (fun i => decide (3 ≤ i)) = [] := by decide
    simp only [nv, List.length_cons, List.length_nil, Nat.zero_add, Nat.reduceAdd, tk, List.nil_append, rr, fl]
    rw [mapV_none nv, show List.range 3 = [0, 1, 2] from rfl]
    simp only [takeO, List.getElem?_cons_succ, List.getElem?_cons_zero, Option.bind_some, hm', lst_map rp', lst_map rq', putO, List.append_nil]
  unfold callF
  rw [hf]
  have hl' : (Val.ref a :: vs).length = fd.np := by rw [List.length_cons]; exact hl
  simp only [hl', if_pos, e1, e2, e3]
theorem call_of {P : Pg} {d f : Nat} {fd : FD} {vs us : List Val} {L : List Nat} {g0 g h h' : Hip} {v v' : Val} (hf : P.fn f = some fd) (hl : vs.length = fd.np) (e1 : enterC vs h = some (L, us, g0)) (e2 : runF P (callF P d) fd us g0 = .ok v g) (e3 : leaveC L v g h = .ok v' h') : callF P (d + 1) f vs h = .ok v' h' := by
  unfold callF
  rw [hf]
  simp only [hl, if_pos, e1, e2, e3]
theorem run_nx {P : Pg} {cf : CF} {fd : FD} {us : List Val} {g0 g : Hip} {ρ : Env} (e : exSs P cf fd.body (us.map some ++ List.replicate (fd.ns - fd.np) none) g0 = .ok (.nx, ρ) g) : runF P cf fd us g0 = .ok .non g := by
  unfold runF; rw [e]
theorem run_ret {P : Pg} {cf : CF} {fd : FD} {us : List Val} {g0 g : Hip} {ρ : Env} {v : Val} (e : exSs P cf fd.body (us.map some ++ List.replicate (fd.ns - fd.np) none) g0 = .ok (.ret v, ρ) g) : runF P cf fd us g0 = .ok v g := by
  unfold runF; rw [e]
end Z

set_option maxRecDepth 100000
/-! C5: lists of tuples of ints. -/
namespace Z
open PySem (Str)
def vT (L : List (List Int)) : List Val := L.map fun l => .tup (vI l)
@[simp] theorem vT_nil : vT [] = [] := rfl
@[simp] theorem vT_cons (x : List Int) (l : List (List Int)) : vT (x :: l) = .tup (vI x) :: vT l := rfl
@[simp] theorem vT_len (l : List (List Int)) : (vT l).length = l.length := List.length_map _
@[simp] theorem vT_get (l : List (List Int)) (i : Nat) : (vT l)[i]? = (l[i]?).map fun l => .tup (vI l) := List.getElem?_map
@[simp] theorem vT_app (l m : List (List Int)) : vT (l ++ m) = vT l ++ vT m := List.map_append
@[simp] theorem vT_refs : ∀ l : List (List Int), refsVs (vT l) = []
  | [] => by simp only [vT_nil, refsVs]
  | x :: l => by simp only [vT_cons, refsVs, refsV, vI_refs, vT_refs l, List.append_nil]
theorem eqvAll_vT : ∀ l m : List (List Int), PySem.PyData.eqvAll (dats (vT l)) (dats (vT m)) = decide (l = m)
  | [], [] => by simp only [vT_nil, dats_nil, PySem.PyData.eqvAll]; rfl
  | [], y :: m => by simp only [vT_nil, vT_cons, dats_nil, dats_cons, PySem.PyData.eqvAll]; rfl
  | x :: l, [] => by simp only [vT_nil, vT_cons, dats_nil, dats_cons, PySem.PyData.eqvAll]; rfl
  | x :: l, y :: m => by
    simp only [vT_cons, dats_cons, PySem.PyData.eqvAll, dat, PySem.PyData.eqv, eqvAll_vI, eqvAll_vT l m]
    by_cases h : x = y
    · subst h
      by_cases h2 : l = m
      · subst h2; simp
      · simp [h2]
    · simp [h]
theorem canLay_vT : ∀ l : List (List Int), PySem.PyData.canLayAll0 (dats (vT l)) = true
  | [] => by simp only [vT_nil, dats_nil, PySem.PyData.canLayAll0]
  | x :: l => by simp only [vT_cons, dats_cons, PySem.PyData.canLayAll0, dat, PySem.PyData.canLay0, canLay_vI, canLay_vT l, Bool.true_and]
theorem depth_vT : ∀ l : List (List Int), PySem.PyData.depthAll (dats (vT l)) ≤ 1
  | [] => by simp only [vT_nil, dats_nil, PySem.PyData.depthAll]; omega
  | x :: l => by
    have := depth_vT l
    simp only [vT_cons, dats_cons, PySem.PyData.depthAll, dat, PySem.PyData.depth, depth_vI]; omega
@[simp] theorem shallow_lvT (l : List (List Int)) : shallow (.lv (vT l)) = true := by
  unfold shallow PySem.SeqAt.shaped
  simp only [dat, PySem.PyData.canLay0, PySem.PyData.depth, canLay_vT]
  have := depth_vT l
  rw [decide_eq_true (by omega)]
  rfl
@[simp] theorem shallow_tupT (l : List (List Int)) : shallow (.tup (vT l)) = true := by
  unfold shallow PySem.SeqAt.shaped
  simp only [dat, PySem.PyData.canLay0, PySem.PyData.depth, canLay_vT]
  have := depth_vT l
  rw [decide_eq_true (by omega)]
  rfl
theorem deepWs_vT {rec : Nat → Option Val} : ∀ l : List (List Int), deepWs rec (vT l) = some (vT l)
  | [] => by simp only [vT_nil, deepWs]
  | x :: l => by simp only [vT_cons, deepWs, deepW, deepWs_vI, deepWs_vT l, Option.map_some]
theorem deep_refT {h : Hip} {a : Nat} {l : List (List Int)} (e : h[a]? = some (.lst (vT l))) : deep h (.ref a) = some (.lv (vT l)) := by
  unfold deep
  simp only [deepW]
  unfold deepN
  rw [e]
  simp only [deepWs_vT, Option.map_some]
theorem peq_tup (l m : List Int) : peq (.tup (vI l)) (.tup (vI m)) = decide (l = m) := by
  unfold peq
  simp only [dat, PySem.PyData.eqv, eqvAll_vI]
theorem peq_int (l m : Int) : peq (.int l) (.int m) = decide (l = m) := by
  unfold peq
  simp only [dat, PySem.PyData.eqv]
  rw [Bool.beq_eq_decide_eq]
theorem any_vT (x : List Int) : ∀ l : List (List Int), ((vT l).any fun z => peq z (.tup (vI x))) = decide (x ∈ l)
  | [] => rfl
  | y :: l => by
    rw [vT_cons, List.any_cons, any_vT x l, peq_tup]
    by_cases h : y = x
    · subst h; simp
    · have : ¬ x = y := fun e => h e.symm
      simp [h, this]
theorem any_vI (x : Int) : ∀ l : List Int, ((vI l).any fun z => peq z (.int x)) = decide (x ∈ l)
  | [] => rfl
  | y :: l => by
    rw [vI_cons, List.any_cons, any_vI x l, peq_int]
    by_cases h : y = x
    · subst h; simp
    · have : ¬ x = y := fun e => h e.symm
      simp [h, this]
theorem find_vT (x : List Int) : ∀ l : List (List Int), x ∈ l → ((vT l).findIdx? fun z => peq z (.tup (vI x))) = some (l.idxOf x)
  | [], h => by cases h
  | y :: l, h => by
    rw [vT_cons, List.findIdx?_cons, peq_tup]
    by_cases e : y = x
    · subst e
      rw [decide_eq_true rfl, if_pos rfl, List.idxOf_cons_self]
    · rw [decide_eq_false e, if_neg Bool.false_ne_true]
      have h : x ∈ l := by
        rcases List.mem_cons.mp h with h | h
        · exact (e h.symm).elim
        · exact h
      rw [find_vT x l h, List.idxOf_cons, beq_eq_false_iff_ne.mpr e]
      rfl
theorem find_vI (x : Int) : ∀ l : List Int, x ∈ l → ((vI l).findIdx? fun z => peq z (.int x)) = some (l.idxOf x)
  | [], h => by cases h
  | y :: l, h => by
    rw [vI_cons, List.findIdx?_cons, peq_int]
    by_cases e : y = x
    · subst e
      rw [decide_eq_true rfl, if_pos rfl, List.idxOf_cons_self]
    · rw [decide_eq_false e, if_neg Bool.false_ne_true]
      have h : x ∈ l := by
        rcases List.mem_cons.mp h with h | h
        · exact (e h.symm).elim
        · exact h
      rw [find_vI x l h, List.idxOf_cons, beq_eq_false_iff_ne.mpr e]
      rfl
theorem in_lst {h : Hip} {a : Nat} {xs : List Val} (e : h[a]? = some (.lst xs)) (x : Val) : inOp h x (.ref a) = amongOp h x (.ref a) := by
  unfold inOp
  simp only [e]
theorem isin_T {h : Hip} {a : Nat} {l : List (List Int)} (e : h[a]? = some (.lst (vT l))) (x : List Int) : cmpOp .isin (.tup (vI x)) (.ref a) h = some (decide (x ∈ l)) := by
  show inOp h (.tup (vI x)) (.ref a) = _
  rw [in_lst e]
  unfold amongOp
  simp only [deep_tup, deep_refT e, items?, shallow_tup, shallow_lvT, Bool.and_self, if_pos, any_vT]
theorem index_T {h : Hip} {a : Nat} {l : List (List Int)} (e : h[a]? = some (.lst (vT l))) {x : List Int} (m : x ∈ l) : bmOp .index (.ref a) [.tup (vI x)] h = .ok (.int (l.idxOf x : Nat)) h := by
  show (match lstAt h (.ref a) with
    | some _ => ok? (idxOp h (.tup (vI x)) (.ref a)) (fun n => Val.int (n : Int)) h
    | none => .bad) = _
  have e1 : lstAt h (.ref a) = some (vT l) := by unfold lstAt; simp only [e]
  have e2 : idxOp h (.tup (vI x)) (.ref a) = some (l.idxOf x) := by
    unfold idxOp
    simp only [deep_tup, deep_refT e, shallow_tup, shallow_lvT, Bool.and_self, if_pos]
    exact find_vT x l m
  rw [e1, e2]
  rfl
theorem isin_I {h : Hip} {a : Nat} {l : List Int} (e : h[a]? = some (.lst (vI l))) (x : Int) : cmpOp .isin (.int x) (.ref a) h = some (decide (x ∈ l)) := by
  show inOp h (.int x) (.ref a) = _
  rw [in_lst e]
  unfold amongOp
  simp only [deep_int, deep_ref e, items?, shallow_int, shallow_lv, Bool.and_self, if_pos, any_vI]
theorem notin_I {h : Hip} {a : Nat} {l : List Int} (e : h[a]? = some (.lst (vI l))) (x : Int) : cmpOp .notin (.int x) (.ref a) h = some (!decide (x ∈ l)) := by
  have := isin_I e x
  show (inOp h (.int x) (.ref a)).map (!·) = _
  rw [show inOp h (.int x) (.ref a) = _ from this]
  rfl
theorem index_I {h : Hip} {a : Nat} {l : List Int} (e : h[a]? = some (.lst (vI l))) {x : Int} (m : x ∈ l) : bmOp .index (.ref a) [.int x] h = .ok (.int (l.idxOf x : Nat)) h := by
  show (match lstAt h (.ref a) with
    | some _ => ok? (idxOp h (.int x) (.ref a)) (fun n => Val.int (n : Int)) h
    | none => .bad) = _
  have e1 : lstAt h (.ref a) = some (vI l) := by unfold lstAt; simp only [e]
  have e2 : idxOp h (.int x) (.ref a) = some (l.idxOf x) := by
    unfold idxOp
    simp only [deep_int, deep_ref e, shallow_int, shallow_lv, Bool.and_self, if_pos]
    exact find_vI x l m
  rw [e1, e2]
  rfl
theorem append_at {h : Hip} {a : Nat} {xs : List Val} (e : h[a]? = some (.lst xs)) (hs : xs.length < 16777216) (v : Val) : bmOp .append (.ref a) [v] h = .ok .non (h.set a (.lst (xs ++ [v]))) := by
  show mAppend (.ref a) [v] h = _
  unfold mAppend
  simp only [e, fits_of hs, if_pos]
theorem append_I {h : Hip} {a : Nat} {xs : List Int} (e : h[a]? = some (.lst (vI xs))) (hs : xs.length < 16777216) (v : Int) : bmOp .append (.ref a) [.int v] h = .ok .non (h.set a (.lst (vI (xs ++ [v])))) := by
  rw [append_at e (by rw [vI_len]; exact hs), vI_app]; rfl
theorem append_T {h : Hip} {a : Nat} {xs : List (List Int)} (e : h[a]? = some (.lst (vT xs))) (hs : xs.length < 16777216) (v : List Int) : bmOp .append (.ref a) [.tup (vI v)] h = .ok .non (h.set a (.lst (vT (xs ++ [v])))) := by
  rw [append_at e (by rw [vT_len]; exact hs), vT_app]; rfl
theorem nIx_last {n : Nat} (h : 0 < n) : nIx n (-1) = some (n - 1) := by
  unfold nIx
  rw [if_neg (by omega), if_pos (by omega)]
  congr 1
  omega
theorem ix_at {h : Hip} {a i : Nat} {xs : List Val} {v : Val} (e : h[a]? = some (.lst xs)) (hv : xs[i]? = some v) : ixOp (.ref a) (.int (i : Int)) h = some v := by
  have hi : i < xs.length := (List.getElem?_eq_some_iff.mp hv).1
  unfold ixOp
  simp only [e]
  unfold nIx
  rw [if_pos (by omega), if_pos (by omega), Int.toNat_natCast, Option.bind_some, hv]
theorem ix_last {h : Hip} {a : Nat} {xs : List Val} {v : Val} (e : h[a]? = some (.lst (xs ++ [v]))) : ixOp (.ref a) (.int (-1)) h = some v := by
  unfold ixOp
  simp only [e]
  rw [nIx_last (by simp), Option.bind_some]
  simp
theorem e_fld {P : Pg} {cf : CF} {ρ : Env} {h h1 : Hip} {o : IE} {f a c : Nat} {fs : List (Nat × Val)} {v : Val} (ho : evE P cf o ρ h = .ok (.ref a) h1) (ha : h1[a]? = some (.ins c fs)) (hf : P.fo c f = true) (hv : fget f fs = some v) : evE P cf (.fld o f) ρ h = .ok v h1 := by
  simp only [evE, ho, Res.bind, ha, hf, if_pos, hv, ok?, id]
theorem s_fld {P : Pg} {cf : CF} {ρ : Env} {h h1 h2 : Hip} {o e : IE} {f a c : Nat} {fs : List (Nat × Val)} {v : Val} (he : evE P cf e ρ h = .ok v h1) (ho : evE P cf o ρ h1 = .ok (.ref a) h2) (ha : h2[a]? = some (.ins c fs)) (hf : P.fo c f = true) (hl : decide (fs.length < 900) = true) : exS P cf (.setFld o f e) ρ h = .ok (.nx, ρ) (h2.set a (.ins c (fput f v fs))) := by
  simp only [exS, he, ho, Res.bind, ha, hf, Bool.true_and, hl, if_pos]
theorem ec_meth {P : Pg} {cf : CF} {ρ : Env} {h h1 h2 : Hip} {o : IE} {m a c f : Nat} {fs : List (Nat × Val)} {es : IEs} {vs : List Val} {r : Res Val} (ho : evE P cf o ρ h = .ok (.ref a) h1) (ha : h1[a]? = some (.ins c fs)) (hm : P.mt c m = some f) (hf : fget m fs = none) (he : evEs P cf es ρ h1 = .ok vs h2) (hr : cf f (.ref a :: vs) h2 = r) : evE P cf (.meth o m es) ρ h = r := by
  simp only [evE, ho, Res.bind, ha, hm, hf, he, hr]
theorem ec_make {P : Pg} {cf : CF} {ρ : Env} {h h1 h2 : Hip} {c f : Nat} {es : IEs} {vs : List Val} (hi : P.ini c = some f) (he : evEs P cf es ρ h = .ok vs h1) (hr : cf f (.ref h1.length :: vs) (h1 ++ [.ins c []]) = .ok .non h2) : evE P cf (.make c es) ρ h = .ok (.ref h1.length) h2 := by
  simp only [evE, hi, he, Res.bind, hr]
theorem e_neg {P : Pg} {cf : CF} {ρ : Env} {h h1 : Hip} {e : IE} {i : Int} (he : evE P cf e ρ h = .ok (.int i) h1) : evE P cf (.neg e) ρ h = .ok (.int (-i)) h1 := by
  simp only [evE, he, Res.bind]
theorem wh_step {c : Env → Hip → Res Bool} {f : Env → Hip → Res (Flow × Env)} {n : Nat} {ρ ρ' : Env} {h h1 h2 : Hip} (hc : c ρ h = .ok true h1) (hf : f ρ h1 = .ok (.nx, ρ') h2) : whL c f (n + 1) ρ h = whL c f n ρ' h2 := by
  rw [whL]; simp only [hc, hf]
theorem wh_end {c : Env → Hip → Res Bool} {f : Env → Hip → Res (Flow × Env)} {n : Nat} {ρ : Env} {h h1 : Hip} (hc : c ρ h = .ok false h1) : whL c f (n + 1) ρ h = .ok (.nx, ρ) h1 := by
  rw [whL]; simp only [hc]
theorem test_of {P : Pg} {cf : CF} {ρ : Env} {h h1 : Hip} {e : IE} {b : Bool} (he : evE P cf e ρ h = .ok (.bl b) h1) : testB (evE P cf e) ρ h = .ok b h1 := by
  unfold testB; rw [he]; rfl
theorem e_not {P : Pg} {cf : CF} {ρ : Env} {h h1 : Hip} {e : IE} {b : Bool} (he : evE P cf e ρ h = .ok (.bl b) h1) : evE P cf (.not1 e) ρ h = .ok (.bl (!b)) h1 := by
  simp only [evE, he, Res.bind]
theorem x_if {P : Pg} {cf : CF} {ρ ρ' : Env} {h h1 : Hip} {s : IS} {ss : ISs} {v : Val} (hs : exS P cf s ρ h = .ok (.ret v, ρ') h1) : exSs P cf (.cons s ss) ρ h = .ok (.ret v, ρ') h1 := by
  simp only [exSs, hs, Res.bind]
theorem x_nil {P : Pg} {cf : CF} {ρ : Env} {h : Hip} : exSs P cf .nil ρ h = .ok (.nx, ρ) h := by simp only [exSs]
theorem x_last {P : Pg} {cf : CF} {ρ ρ' : Env} {h h1 : Hip} {s : IS} (hs : exS P cf s ρ h = .ok (.nx, ρ') h1) : exSs P cf (.cons s .nil) ρ h = .ok (.nx, ρ') h1 := by
  rw [x_cons hs, x_nil]
end Z

set_option maxRecDepth 100000
/-! C6: the state from which numbers are drawn. -/
namespace Z
open PySem (Str)
def kC : Val := .str "cells"
def kG : Val := .str "great"
def kS : Val := .str "spot"
def stO (b c : Nat) (s : Int) : Ob := .dct [(kC, .ref b), (kG, .ref c), (kS, .int s)]
theorem kCG : kC ≠ kG := by decide +kernel
theorem kCS : kC ≠ kS := by decide +kernel
theorem kGS : kG ≠ kS := by decide +kernel
theorem st_keys (b c : Nat) (s : Int) : (([(kC, .ref b), (kG, .ref c), (kS, .int s)] : List (Val × Val)).all (fun p => isKey1 p.1)) = true := rfl
theorem ix_dct {h : Hip} {a : Nat} {kvs : List (Val × Val)} {k v : Val} (e : h[a]? = some (.dct kvs)) (hk : kvs.all (fun p => isKey1 p.1) = true) (h1 : isKey1 k = true) (hg : dget k kvs = some v) : ixOp (.ref a) k h = some v := by
  unfold ixOp
  simp only [e]
  have c : (kvs.all (fun p => isKey1 p.1) && isKey1 k || kvs.all (fun p => isKeyT p.1) && isKeyT k) = true := by rw [hk, h1]; rfl
  cases k <;> simp only [c, if_pos, hg] <;> first | rfl | (cases h1)
theorem put_dct {h : Hip} {a : Nat} {kvs kvs' : List (Val × Val)} {k v : Val} (e : h[a]? = some (.dct kvs)) (hk : kvs.all (fun p => isKey1 p.1) = true) (h1 : isKey1 k = true) (hl : kvs.length + 1 < 16777216) (hp : dput k v kvs = kvs') : putIx (.ref a) k v h = .ok () (h.set a (.dct kvs')) := by
  unfold putIx
  simp only [e]
  have c : ((kvs.all (fun p => isKey1 p.1) && isKey1 k || kvs.all (fun p => isKeyT p.1) && isKeyT k) && fits (kvs.length + 1)) = true := by rw [hk, h1, fits_of hl]; rfl
  cases k <;> simp only [c, if_pos, hp] <;> first | rfl | (cases h1)
section
variable {h : Hip} {a b c : Nat} {s : Int}
theorem st_C (e : h[a]? = some (stO b c s)) : ixOp (.ref a) kC h = some (.ref b) := ix_dct e (st_keys b c s) rfl (by unfold dget; rw [if_pos rfl])
theorem st_G (e : h[a]? = some (stO b c s)) : ixOp (.ref a) kG h = some (.ref c) := ix_dct e (st_keys b c s) rfl (by unfold dget; rw [if_neg kCG]; unfold dget; rw [if_pos rfl])
theorem st_S (e : h[a]? = some (stO b c s)) : ixOp (.ref a) kS h = some (.int s) := ix_dct e (st_keys b c s) rfl (by unfold dget; rw [if_neg kCS]; unfold dget; rw [if_neg kGS]; unfold dget; rw [if_pos rfl])
theorem st_putS (e : h[a]? = some (stO b c s)) (s' : Int) : putIx (.ref a) kS (.int s') h = .ok () (h.set a (stO b c s')) := put_dct e (st_keys b c s) rfl (by simp) (by
  unfold dput
  have : ([(kC, Val.ref b), (kG, .ref c), (kS, .int s)].any fun p => decide (p.1 = kS)) = true := by
    simp only [List.any_cons, decide_true, Bool.true_or, Bool.or_true]
  rw [this, if_pos rfl]
  simp only [List.map_cons, List.map_nil, if_neg kCS, if_neg kGS, if_pos])
theorem st_putG (e : h[a]? = some (stO b c s)) (c' : Nat) : putIx (.ref a) kG (.ref c') h = .ok () (h.set a (stO b c' s)) := put_dct e (st_keys b c s) rfl (by simp) (by
  unfold dput
  have : ([(kC, Val.ref b), (kG, .ref c), (kS, .int s)].any fun p => decide (p.1 = kG)) = true := by
    simp only [List.any_cons, decide_true, Bool.true_or, Bool.or_true]
  rw [this, if_pos rfl]
  simp only [List.map_cons, List.map_nil, if_neg kCG, if_neg (Ne.symm kGS), if_pos])
theorem st_refs : refsO (stO b c s) = [b, c] := by
  simp only [stO, refsO, List.map, refsVs, kC, kG, kS, refsV, List.nil_append, List.append_nil, List.cons_append]
theorem st_map {f : Nat → Option Nat} {b' c' : Nat} (h1 : f b = some b') (h2 : f c = some c') : mapO f (stO b c s) = some (stO b' c' s) := by
  simp only [stO, mapO, List.map, mapVs, kC, kG, kS, mapV, h1, h2, Option.map_some, List.zip_cons_cons, List.zip_nil_right]
end
/-- the state lies at a -/
structure StA (h : Hip) (a b c : Nat) (cs gs : List Int) (s : Nat) : Prop where
  o : h[a]? = some (stO b c s)
  p : h[b]? = some (.lst (vI cs))
  q : h[c]? = some (.lst (vI gs))
  ab : a ≠ b
  ac : a ≠ c
  bc : b ≠ c
  l : cs.length = 64
/-- the state has gone on -/
def goOn (h : Hip) (a b c : Nat) (cs gs : List Int) (s : Nat) : Hip := ((h.set a (stO b c s)).set b (.lst (vI cs))).set c (.lst (vI gs))
theorem StA.on {h : Hip} {a b c : Nat} {cs gs : List Int} {s : Nat} (A : StA h a b c cs gs s) (gs' : List Int) (s' : Nat) : StA (goOn h a b c cs gs' s') a b c cs gs' s' := by
  have la := (List.getElem?_eq_some_iff.mp A.o).1
  have lb := (List.getElem?_eq_some_iff.mp A.p).1
  have lc := (List.getElem?_eq_some_iff.mp A.q).1
  refine ⟨?_, ?_, ?_, A.ab, A.ac, A.bc, A.l⟩
  · unfold goOn
    rw [List.getElem?_set_ne (Ne.symm A.ac), List.getElem?_set_ne (Ne.symm A.ab), List.getElem?_set_self la]
  · unfold goOn
    rw [List.getElem?_set_ne (Ne.symm A.bc), List.getElem?_set_self (by rw [List.length_set]; exact lb)]
  · unfold goOn
    rw [List.getElem?_set_self (by rw [List.length_set, List.length_set]; exact lc)]
theorem put_lstA {h : Hip} {a : Nat} {l : List Int} {x y : Int} (e : h[a]? = some (.lst (vI l))) (h0 : 0 ≤ x) (h1 : x < (l.length : Int)) : putIx (.ref a) (.int x) (.int y) h = .ok () (h.set a (.lst (vI (l.set x.toNat y)))) := by
  have e2 : nIx (vI l).length x = some x.toNat := by
    unfold nIx
    rw [if_pos h0, vI_len, if_pos h1]
  unfold putIx
  simp only [e, e2, vI_set]
theorem ix_lstA {h : Hip} {a : Nat} {l : List Int} {x : Int} (e : h[a]? = some (.lst (vI l))) (h0 : 0 ≤ x) (h1 : x < (l.length : Int)) : ixOp (.ref a) (.int x) h = some (.int (l.getD x.toNat 0)) := by
  have e2 : nIx (vI l).length x = some x.toNat := by
    unfold nIx
    rw [if_pos h0, vI_len, if_pos h1]
  unfold ixOp
  simp only [e, e2, Option.bind_some, vI_get]
  rw [List.getElem?_eq_getElem (by omega), List.getD_eq_getElem?_getD, List.getElem?_eq_getElem (by omega)]
  rfl
theorem ne_lst {h : Hip} {a b : Nat} {l m : List Int} (e1 : h[a]? = some (.lst (vI l))) (e2 : h[b]? = some (.lst (vI m))) : cmpOp .ne (.ref a) (.ref b) h = some (!decide (l = m)) := by
  show (eqOp h (.ref a) (.ref b)).map (!·) = _
  rw [eq_lst e1 e2]; rfl
theorem s_setIx {P : Pg} {cf : CF} {ρ : Env} {h h1 h2 h3 h4 : Hip} {o i e : IE} {x k v : Val} (he : evE P cf e ρ h = .ok v h1) (ho : evE P cf o ρ h1 = .ok x h2) (hi : evE P cf i ρ h2 = .ok k h3) (hp : putIx x k v h3 = .ok () h4) : exS P cf (.setIx o i e) ρ h = .ok (.nx, ρ) h4 := by
  simp only [exS, he, ho, hi, hp, Res.bind]
theorem gt_int (i j : Int) (h : Hip) : cmpOp .gt (.int i) (.int j) h = some (decide (j < i)) := rfl
theorem lt_int (i j : Int) (h : Hip) : cmpOp .lt (.int i) (.int j) h = some (decide (i < j)) := rfl
theorem le_int (i j : Int) (h : Hip) : cmpOp .le (.int i) (.int j) h = some (decide (i ≤ j)) := rfl
theorem ge_int (i j : Int) (h : Hip) : cmpOp .ge (.int i) (.int j) h = some (decide (j ≤ i)) := rfl
theorem eq_intC (i j : Int) (h : Hip) : cmpOp .eq (.int i) (.int j) h = some (decide (i = j)) := eq_int h i j
theorem ne_intC (i j : Int) (h : Hip) : cmpOp .ne (.int i) (.int j) h = some (!decide (i = j)) := by
  show (eqOp h (.int i) (.int j)).map (!·) = _
  rw [eq_int]; rfl
theorem len_at {h : Hip} {a : Nat} {xs : List Val} (e : h[a]? = some (.lst xs)) : biOp .len [.ref a] h = .ok (.int (xs.length : Nat)) h := by
  show ok? (lenOp h (.ref a)) (fun n => Val.int (n : Int)) _ = _
  unfold lenOp
  simp only [e, ok?]
theorem len_I {h : Hip} {a : Nat} {xs : List Int} (e : h[a]? = some (.lst (vI xs))) : biOp .len [.ref a] h = .ok (.int (xs.length : Nat)) h := by
  rw [len_at e, vI_len]
theorem int1_int (i : Int) (h : Hip) : biOp .int1 [.int i] h = .ok (.int i) h := rfl
theorem int1_bl (b : Bool) (h : Hip) : biOp .int1 [.bl b] h = .ok (.int (if b then 1 else 0)) h := rfl
end Z

set_option maxRecDepth 100000
/-! C7: calls that see the state and a list; strings. -/
namespace Z
open PySem (Str)
theorem cnt3 {a b c x : Nat} (h : a ≠ x) (h2 : b ≠ x) (h3 : c ≠ x) : [a, b, c].contains x = false := by
  simp only [List.contains_cons, List.contains_nil, Bool.or_false]
  rw [beq_eq_false_iff_ne.mpr (Ne.symm h), beq_eq_false_iff_ne.mpr (Ne.symm h2), beq_eq_false_iff_ne.mpr (Ne.symm h3)]; rfl
/-- a call that sees the state at a, b, c, and the list at e -/
theorem call4 {P : Pg} {d f a b c e : Nat} {fd : FD} {vs : List Val} {v : Val} {ρ : Env} {g h : Hip} {cs gs gs' : List Int} {s s' : Nat} {xs : List Val} (hf : P.fn f = some fd) (hl : vs.length + 2 = fd.np) (hv : refsVs vs = [])
    (A : StA h a b c cs gs s) (he : h[e]? = some (.lst xs)) (ae : a ≠ e) (be : b ≠ e) (ce : c ≠ e) (rx : refsVs xs = [])
    (hr : exSs P (callF P d) fd.body (some (.ref 0) :: some (.ref 1) :: vs.map some ++ List.replicate (fd.ns - fd.np) none) [stO 2 3 s, .lst xs, .lst (vI cs), .lst (vI gs)] = .ok (.ret v, ρ) (stO 2 3 s' :: .lst xs :: .lst (vI cs) :: .lst (vI gs') :: g))
    (nv : refsV v = []) : callF P (d + 1) f (.ref a :: .ref e :: vs) h = .ok v (goOn h a b c cs gs' s') := by
  have p0 : Z.place [a, e, b, c] a = some 0 := by simp [place, List.idxOf?, List.findIdx?_cons]
  have p1 : Z.place [a, e, b, c] e = some 1 := by simp [place, List.idxOf?, List.findIdx?_cons, ae]
  have p2 : Z.place [a, e, b, c] b = some 2 := by simp [place, List.idxOf?, List.findIdx?_cons, A.ab, Ne.symm be]
  have p3 : Z.place [a, e, b, c] c = some 3 := by simp [place, List.idxOf?, List.findIdx?_cons, A.ac, Ne.symm ce, A.bc]
  have e1 : enterC (.ref a :: .ref e :: vs) h = some ([a, e, b, c], .ref 0 :: .ref 1 :: vs, [stO 2 3 s, .lst xs, .lst (vI cs), .lst (vI gs)]) := by
    unfold enterC
    have r : refsVs (.ref a :: .ref e :: vs) = [a, e] := by simp only [refsVs, refsV, hv]; rfl
    have rc : reach h RF [a, e] [] = [a, e, b, c] := by
      rw [reach_cons RF_pos]
      simp only [List.contains_nil, if_neg Bool.false_ne_true, A.o, st_refs, List.nil_append, List.cons_append]
      rw [reach_cons (by decide), if_neg (by rw [cnt1 ae]; exact Bool.false_ne_true)]
      simp only [he, refsO, rx, List.append_nil]
      rw [reach_cons (by decide), if_neg (by rw [show [a] ++ [e] = [a, e] from rfl, cnt2 A.ab (Ne.symm be)]; exact Bool.false_ne_true)]
      simp only [A.p, refsO, vI_refs, List.append_nil]
      rw [reach_cons (by decide), if_neg (by rw [show [a] ++ [e] ++ [b] = [a, e, b] from rfl, cnt3 A.ac (Ne.symm ce) A.bc]; exact Bool.false_ne_true)]
      simp only [A.q, refsO, vI_refs, List.append_nil]
      rw [reach_nil (by decide)]
      rfl
    simp only [r, rc]
    simp only [mapVs, mapV, p0, p1, Option.map_some, mapVs_none hv, takeO, A.o, A.p, A.q, he, Option.bind_some, st_map p2 p3, lst_map rx, lst_map (vI_refs _)]
  have e2 : runF P (callF P d) fd (.ref 0 :: .ref 1 :: vs) [stO 2 3 s, .lst xs, .lst (vI cs), .lst (vI gs)] = .ok v (stO 2 3 s' :: .lst xs :: .lst (vI cs) :: .lst (vI gs') :: g) := by
    unfold runF
    rw [show (Val.ref 0 :: Val.ref 1 :: vs).map some = some (.ref 0) :: some (.ref 1) :: vs.map some from rfl, hr]
  have e3 : leaveC [a, e, b, c] v (stO 2 3 s' :: .lst xs :: .lst (vI cs) :: .lst (vI gs') :: g) h = .ok v (goOn h a b c cs gs' s') := by
    unfold leaveC
    have rr : reach (stO 2 3 s' :: .lst xs :: .lst (vI cs) :: .lst (vI gs') :: g) RF [2, 3] [] = [2, 3] := by
      rw [reach_cons RF_pos]
      simp only [List.contains_nil, if_neg Bool.false_ne_true, List.getElem?_cons_succ, List.getElem?_cons_zero, refsO, vI_refs, List.append_nil, List.nil_append]
      rw [reach_cons (by decide), if_neg (by decide)]
      simp only [List.getElem?_cons_succ, List.getElem?_cons_zero, refsO, vI_refs, List.append_nil]
      rw [reach_nil (by decide)]
      rfl
    have tk : refsAll ((stO 2 3 s' :: .lst xs :: .lst (vI cs) :: .lst (vI gs') :: g).take 4) = [2, 3] := by
      show refsO _ ++ (refsVs xs ++ (refsVs (vI cs) ++ (refsVs (vI gs') ++ []))) = _
      rw [st_refs, rx, vI_refs, vI_refs]; rfl
    have fl : [2, 3].filter (fun i => decide (4 ≤ i)) = [] := by decide
    simp only [nv, List.length_cons, List.length_nil, Nat.zero_add, Nat.reduceAdd, tk, List.nil_append, rr, fl]
    rw [mapV_none nv, show List.range 4 = [0, 1, 2, 3] from rfl]
    simp only [takeO, List.getElem?_cons_succ, List.getElem?_cons_zero, Option.bind_some, st_map (f := backTo [a, e, b, c] [] h.length) (b := 2) (c := 3) (b' := b) (c' := c) rfl rfl, lst_map rx, lst_map (vI_refs _), putO, List.append_nil]
    have : (h.set a (stO b c (s' : Nat))).set e (.lst xs) = h.set a (stO b c (s' : Nat)) := set_self (by rw [List.getElem?_set_ne ae]; exact he)
    rw [this]
    rfl
  exact call_of hf (by rw [List.length_cons, List.length_cons]; exact hl) e1 e2 e3
theorem sh_str {a : Str} (o : PySem.PyData.strOk a = true) : shallow (.str a) = true := by
  unfold shallow PySem.SeqAt.shaped
  simp only [dat, PySem.PyData.canLay0, PySem.PyData.depth, o]
  rfl
theorem eq_str (h : Hip) {a b : Str} (oa : PySem.PyData.strOk a = true) (ob : PySem.PyData.strOk b = true) : eqOp h (.str a) (.str b) = some (decide (a = b)) := by
  have d : ∀ a : Str, deep h (.str a) = some (.str a) := fun a => by unfold deep; simp only [deepW]
  unfold eqOp
  simp only [d, sh_str oa, sh_str ob, Bool.and_self, if_pos]
  unfold peq
  simp only [dat, PySem.PyData.eqv]
  rw [Bool.beq_eq_decide_eq]
theorem eq_strC (h : Hip) {a b : Str} (oa : PySem.PyData.strOk a = true) (ob : PySem.PyData.strOk b = true) : cmpOp .eq (.str a) (.str b) h = some (decide (a = b)) := eq_str h oa ob
theorem ne_strC (h : Hip) {a b : Str} (oa : PySem.PyData.strOk a = true) (ob : PySem.PyData.strOk b = true) : cmpOp .ne (.str a) (.str b) h = some (!decide (a = b)) := by
  show (eqOp h (.str a) (.str b)).map (!·) = _
  rw [eq_str h oa ob]; rfl
end Z

set_option maxRecDepth 100000
/-! C8: heaps that grow. -/
namespace Z
open PySem (Str)
theorem get_new {h : Hip} {o : Ob} : (h ++ [o])[h.length]? = some o := by simp
theorem get_old {h g : Hip} {a : Nat} {o : Ob} (e : h[a]? = some o) : (h ++ g)[a]? = some o := by
  have := (List.getElem?_eq_some_iff.mp e).1
  rw [List.getElem?_append_left this]; exact e
/-- a comprehension whose tests may leave garbage -/
theorem lcL_grow {k : Wk} {f : Val → Hip → Res (Option Val)} {φ : Val → Option Val} {h0 : Hip} (hat : ∀ i g, k.at i (h0 ++ g) = true) :
    ∀ (xs acc : List Val) (i : Nat) (g : Hip), (∀ x ∈ xs, ∀ g, ∃ g', f x (h0 ++ g) = .ok (φ x) (h0 ++ g')) → acc.length + xs.length < 16777216 → ∃ g', lcL k f i xs acc (h0 ++ g) = .ok (acc ++ xs.filterMap φ) (h0 ++ g')
  | [], acc, i, g, _, _ => ⟨g, by
    unfold lcL
    rw [if_pos (hat i g), List.filterMap_nil, List.append_nil]⟩
  | x :: xs, acc, i, g, st, sz => by
    rw [List.length_cons] at sz
    obtain ⟨g1, e1⟩ := st x List.mem_cons_self g
    cases e : φ x with
    | some y =>
      obtain ⟨g', ih⟩ := lcL_grow hat xs (acc ++ [y]) (i + 1) g1 (fun z m => st z (List.mem_cons_of_mem _ m)) (by rw [List.length_append, List.length_singleton]; omega)
      refine ⟨g', ?_⟩
      unfold lcL
      rw [if_pos (hat i g), e1, e]
      have ft : fits acc.length = true := decide_eq_true (by show acc.length < 16777216; omega)
      simp only [ft, if_pos]
      rw [ih, List.filterMap_cons_some e, List.append_assoc]
      rfl
    | none =>
      obtain ⟨g', ih⟩ := lcL_grow hat xs acc (i + 1) g1 (fun z m => st z (List.mem_cons_of_mem _ m)) (by omega)
      refine ⟨g', ?_⟩
      unfold lcL
      rw [if_pos (hat i g), e1, e]
      simp only []
      rw [ih, List.filterMap_cons_none e]
theorem lc_ints {k : Wk} {f : Val → Hip → Res (Option Val)} {g : Int → Int} {h : Hip} (hat : ∀ i, k.at i h = true) (xs : List Int) (i : Nat) (st : ∀ x ∈ xs, f (.int x) h = .ok (some (.int (g x))) h) (sz : xs.length < 16777216) : lcL k f i (vI xs) [] h = .ok (vI (xs.map g)) h := by
  have := lcL_map (k := k) (f := f) (φ := fun v => match v with | .int x => some (.int (g x)) | _ => none) (h := h) hat (vI xs) [] i (fun v m => by
    obtain ⟨x, hx, rfl⟩ := List.mem_map.mp m
    exact st x hx) (by simpa using sz)
  rw [this, List.nil_append]
  congr 1
  clear this st sz
  induction xs with
  | nil => rfl
  | cons x xs ih => exact congrArg (Val.int (g x) :: ·) ih
theorem fm_filter {p : Int → Bool} {φ : Val → Option Val} (h : ∀ x, φ (.int x) = if p x = true then some (.int x) else none) : ∀ X : List Int, (vI X).filterMap φ = vI (X.filter p)
  | [] => rfl
  | x :: X => by
    have hx := h x
    rw [vI_cons]
    by_cases c : p x = true
    · rw [if_pos c] at hx
      rw [List.filterMap_cons_some hx, List.filter_cons_of_pos c, vI_cons, fm_filter h X]
    · rw [if_neg c] at hx
      rw [List.filterMap_cons_none hx, List.filter_cons_of_neg c, fm_filter h X]
theorem comp_no {P : Pg} {cf : CF} {ρ ρ' : Env} {t : Tg} {e : IE} {v u : Val} {h h1 : Hip} (ht : setT t v ρ = some ρ') (he : evE P cf e ρ' h = .ok u h1) : compStep t ρ (evC P cf .no) (evE P cf e) v h = .ok (some u) h1 := by
  simp only [compStep, ht, evC, Res.bind, if_pos, he]
theorem comp_T {P : Pg} {cf : CF} {ρ ρ' : Env} {t : Tg} {c e : IE} {v u : Val} {h h1 h2 : Hip} (ht : setT t v ρ = some ρ') (hc : evE P cf c ρ' h = .ok (.bl true) h1) (he : evE P cf e ρ' h1 = .ok u h2) : compStep t ρ (evC P cf (.so c)) (evE P cf e) v h = .ok (some u) h2 := by
  simp only [compStep, ht, evC, hc, Res.bind, if_pos, he]
theorem comp_F {P : Pg} {cf : CF} {ρ ρ' : Env} {t : Tg} {c e : IE} {v : Val} {h h1 : Hip} (ht : setT t v ρ = some ρ') (hc : evE P cf c ρ' h = .ok (.bl false) h1) : compStep t ρ (evC P cf (.so c)) (evE P cf e) v h = .ok none h1 := by
  simp only [compStep, ht, evC, hc, Res.bind, if_neg Bool.false_ne_true]
theorem e_ite {P : Pg} {cf : CF} {ρ : Env} {c a b : IE} {t : Bool} {h h1 : Hip} {r : Res Val} (hc : evE P cf c ρ h = .ok (.bl t) h1) (hr : (if t then evE P cf a ρ h1 else evE P cf b ρ h1) = r) : evE P cf (.ite c a b) ρ h = r := by
  simp only [evE, hc, Res.bind]
  cases t
  · exact hr
  · exact hr
theorem e_iteT {P : Pg} {cf : CF} {ρ : Env} {c a b : IE} {h h1 : Hip} {r : Res Val} (hc : evE P cf c ρ h = .ok (.bl true) h1) (hr : evE P cf a ρ h1 = r) : evE P cf (.ite c a b) ρ h = r := by
  simp only [evE, hc, Res.bind]; exact hr
theorem e_iteF {P : Pg} {cf : CF} {ρ : Env} {c a b : IE} {h h1 : Hip} {r : Res Val} (hc : evE P cf c ρ h = .ok (.bl false) h1) (hr : evE P cf b ρ h1 = r) : evE P cf (.ite c a b) ρ h = r := by
  simp only [evE, hc, Res.bind]; exact hr
theorem sl_ref {h : Hip} {a : Nat} {xs : List Val} {lo hi : Option Val} {l u : Option Int} (e : h[a]? = some (.lst xs)) (hl : partI lo = some l) (hu : partI hi = some u) : slOp (.ref a) lo hi h = alloc (.lst (cut xs l u)) h := by
  unfold slOp
  simp only [hl, hu, e]
theorem clip_nat {N n : Nat} (h : n ≤ N) : clip N (n : Int) = n := by
  unfold clip
  rw [if_neg (by omega), Int.toNat_natCast, Nat.min_eq_left h]
theorem cut_lo {l : List Int} {n : Nat} (h : n ≤ l.length) : cut (vI l) none (some (n : Int)) = vI (l.take n) := by
  show ((vI l).drop 0).take (clip (vI l).length (n : Int) - 0) = _
  rw [vI_len, clip_nat h, List.drop_zero, Nat.sub_zero]
  exact List.map_take.symm
theorem cut_hi {l : List Int} {n : Nat} (h : n ≤ l.length) : cut (vI l) (some (n : Int)) none = vI (l.drop n) := by
  show ((vI l).drop (clip (vI l).length (n : Int))).take ((vI l).length - clip (vI l).length (n : Int)) = _
  rw [vI_len, clip_nat h, List.take_of_length_le (by rw [List.length_drop, vI_len]; exact Nat.le_refl _)]
  exact List.map_drop.symm
theorem cut_both {l : List Int} {n m : Nat} (h : n ≤ l.length) (h2 : m ≤ l.length) : cut (vI l) (some (n : Int)) (some (m : Int)) = vI ((l.drop n).take (m - n)) := by
  show ((vI l).drop (clip (vI l).length (n : Int))).take (clip (vI l).length (m : Int) - clip (vI l).length (n : Int)) = _
  rw [vI_len, clip_nat h, clip_nat h2]
  unfold vI
  rw [← List.map_drop, ← List.map_take]
theorem sl_lo {h : Hip} {a n : Nat} {l : List Int} (e : h[a]? = some (.lst (vI l))) (hn : n ≤ l.length) : slOp (.ref a) none (some (.int n)) h = alloc (.lst (vI (l.take n))) h := by
  rw [sl_ref e rfl rfl, cut_lo hn]
theorem sl_hi {h : Hip} {a n : Nat} {l : List Int} (e : h[a]? = some (.lst (vI l))) (hn : n ≤ l.length) : slOp (.ref a) (some (.int n)) none h = alloc (.lst (vI (l.drop n))) h := by
  rw [sl_ref e rfl rfl, cut_hi hn]
theorem sl_both {h : Hip} {a n m : Nat} {l : List Int} (e : h[a]? = some (.lst (vI l))) (hn : n ≤ l.length) (hm : m ≤ l.length) : slOp (.ref a) (some (.int n)) (some (.int m)) h = alloc (.lst (vI ((l.drop n).take (m - n)))) h := by
  rw [sl_ref e rfl rfl, cut_both hn hm]
theorem e_slB {P : Pg} {cf : CF} {ρ : Env} {h h1 h2 h3 : Hip} {a b c : IE} {x y z : Val} {r : Res Val} (ha : evE P cf a ρ h = .ok x h1) (hb : evE P cf b ρ h1 = .ok y h2) (hc : evE P cf c ρ h2 = .ok z h3) (hv : slOp x (some y) (some z) h3 = r) : evE P cf (.sl a (.so b) (.so c)) ρ h = r := by
  simp only [evE, evO, ha, hb, hc, Res.bind, hv]
theorem add_lst {h : Hip} {a b : Nat} {xs ys : List Val} (e1 : h[a]? = some (.lst xs)) (e2 : h[b]? = some (.lst ys)) (hl : xs.length + ys.length < 16777216) : binOp .add (.ref a) (.ref b) h = alloc (.lst (xs ++ ys)) h := by
  unfold binOp
  simp only [e1, e2, fits_of hl, if_pos]
theorem add_I {h : Hip} {a b : Nat} {xs ys : List Int} (e1 : h[a]? = some (.lst (vI xs))) (e2 : h[b]? = some (.lst (vI ys))) (hl : xs.length + ys.length < 16777216) : binOp .add (.ref a) (.ref b) h = alloc (.lst (vI (xs ++ ys))) h := by
  rw [add_lst e1 e2 (by rw [vI_len, vI_len]; exact hl), vI_app]
theorem walkR {h : Hip} {a : Nat} {xs : List Val} (e : h[a]? = some (.lst xs)) : walkOf h (.ref a) = some ⟨xs, some a⟩ := by
  unfold walkOf
  simp only [e]
theorem al (o : Ob) (h : Hip) : alloc o h = .ok (.ref h.length) (h ++ [o]) := rfl
end Z

set_option maxRecDepth 100000
/-! C9: comprehensions that change the state; flat values. -/
namespace Z
open PySem (Str)
/-- a comprehension by an invariant that counts -/
theorem lcL_inv {k : Wk} {f : Val → Hip → Res (Option Val)} {I : Nat → Hip → Prop} {Q : Val → Prop} (N : Nat) (hat : ∀ i n h, I n h → k.at i h = true) :
    ∀ (xs acc : List Val) (i n : Nat) (h : Hip), n + xs.length ≤ N → I n h → (∀ y ∈ acc, Q y) → (∀ x ∈ xs, ∀ n h, n < N → I n h → ∃ (o : Option Val) (h' : Hip), I (n + 1) h' ∧ (∀ y, o = some y → Q y) ∧ f x h = .ok o h') → acc.length + xs.length < 16777216 →
      ∃ (ys : List Val) (h' : Hip), I (n + xs.length) h' ∧ (∀ y ∈ ys, Q y) ∧ ys.length ≤ acc.length + xs.length ∧ lcL k f i xs acc h = .ok ys h'
  | [], acc, i, n, h, _, hI, hQ, _, _ => ⟨acc, h, hI, hQ, Nat.le_refl _, by
    unfold lcL
    rw [if_pos (hat i n h hI)]⟩
  | x :: xs, acc, i, n, h, hN, hI, hQ, st, sz => by
    rw [List.length_cons] at sz hN
    obtain ⟨o, h1, I1, Q1, e1⟩ := st x List.mem_cons_self n h (by omega) hI
    cases o with
    | some y =>
      obtain ⟨ys, h', I2, Q2, l2, e2⟩ := lcL_inv N hat xs (acc ++ [y]) (i + 1) (n + 1) h1 (by omega) I1 (fun z m => by
        rcases List.mem_append.mp m with m | m
        · exact hQ z m
        · rw [List.mem_singleton.mp m]; exact Q1 y rfl) (fun z m => st z (List.mem_cons_of_mem _ m)) (by rw [List.length_append, List.length_singleton]; omega)
      refine ⟨ys, h', by rw [List.length_cons, show n + (xs.length + 1) = n + 1 + xs.length by omega]; exact I2, Q2, by rw [List.length_append, List.length_singleton] at l2; rw [List.length_cons]; omega, ?_⟩
      unfold lcL
      rw [if_pos (hat i n h hI), e1]
      have ft : fits acc.length = true := decide_eq_true (by show acc.length < 16777216; omega)
      simp only [ft, if_pos]
      exact e2
    | none =>
      obtain ⟨ys, h', I2, Q2, l2, e2⟩ := lcL_inv N hat xs acc (i + 1) (n + 1) h1 (by omega) I1 hQ (fun z m => st z (List.mem_cons_of_mem _ m)) (by omega)
      refine ⟨ys, h', by rw [List.length_cons, show n + (xs.length + 1) = n + 1 + xs.length by omega]; exact I2, Q2, by rw [List.length_cons]; omega, ?_⟩
      unfold lcL
      rw [if_pos (hat i n h hI), e1]
      exact e2
/-- the same, each item gives one -/
theorem lcL_all {k : Wk} {f : Val → Hip → Res (Option Val)} {I : Nat → Hip → Prop} {Q : Val → Prop} (N : Nat) (hat : ∀ i n h, I n h → k.at i h = true) :
    ∀ (xs acc : List Val) (i n : Nat) (h : Hip), n + xs.length ≤ N → I n h → (∀ y ∈ acc, Q y) → (∀ x ∈ xs, ∀ n h, n < N → I n h → ∃ (y : Val) (h' : Hip), I (n + 1) h' ∧ Q y ∧ f x h = .ok (some y) h') → acc.length + xs.length < 16777216 →
      ∃ (ys : List Val) (h' : Hip), I (n + xs.length) h' ∧ (∀ y ∈ ys, Q y) ∧ ys.length = acc.length + xs.length ∧ lcL k f i xs acc h = .ok ys h'
  | [], acc, i, n, h, _, hI, hQ, _, _ => ⟨acc, h, hI, hQ, rfl, by
    unfold lcL
    rw [if_pos (hat i n h hI)]⟩
  | x :: xs, acc, i, n, h, hN, hI, hQ, st, sz => by
    rw [List.length_cons] at sz hN
    obtain ⟨y, h1, I1, Q1, e1⟩ := st x List.mem_cons_self n h (by omega) hI
    obtain ⟨ys, h', I2, Q2, l2, e2⟩ := lcL_all N hat xs (acc ++ [y]) (i + 1) (n + 1) h1 (by omega) I1 (fun z m => by
      rcases List.mem_append.mp m with m | m
      · exact hQ z m
      · rw [List.mem_singleton.mp m]; exact Q1) (fun z m => st z (List.mem_cons_of_mem _ m)) (by rw [List.length_append, List.length_singleton]; omega)
    refine ⟨ys, h', by rw [List.length_cons, show n + (xs.length + 1) = n + 1 + xs.length by omega]; exact I2, Q2, by rw [List.length_append, List.length_singleton] at l2; rw [List.length_cons]; omega, ?_⟩
    unfold lcL
    rw [if_pos (hat i n h hI), e1]
    have ft : fits acc.length = true := decide_eq_true (by show acc.length < 16777216; omega)
    simp only [ft, if_pos]
    exact e2
theorem vals_ints {ys : List Val} (h : ∀ y ∈ ys, ∃ k : Int, y = .int k) : ∃ l : List Int, ys = vI l := by
  induction ys with
  | nil => exact ⟨[], rfl⟩
  | cons y ys ih =>
    obtain ⟨k, rfl⟩ := h y List.mem_cons_self
    obtain ⟨l, rfl⟩ := ih fun z m => h z (List.mem_cons_of_mem _ m)
    exact ⟨k :: l, rfl⟩
/-- values that hold no objects and are not deep -/
structure Fl (v : Val) : Prop where
  r : refsV v = []
  dp : ∀ rec, deepW rec v = some v
  cl : PySem.PyData.canLay0 (dat v) = true
  d : PySem.PyData.depth (dat v) ≤ 8
theorem fl_refs {xs : List Val} (h : ∀ x ∈ xs, Fl x) : refsVs xs = [] := by
  induction xs with
  | nil => simp only [refsVs]
  | cons x xs ih => simp only [refsVs, (h x List.mem_cons_self).r, ih fun y m => h y (List.mem_cons_of_mem _ m), List.append_nil]
theorem fl_deep {xs : List Val} (h : ∀ x ∈ xs, Fl x) (rec : Nat → Option Val) : deepWs rec xs = some xs := by
  induction xs with
  | nil => simp only [deepWs]
  | cons x xs ih => simp only [deepWs, (h x List.mem_cons_self).dp, ih fun y m => h y (List.mem_cons_of_mem _ m), Option.map_some]
theorem fl_lay {xs : List Val} (h : ∀ x ∈ xs, Fl x) : PySem.PyData.canLayAll0 (dats xs) = true := by
  induction xs with
  | nil => simp only [dats_nil, PySem.PyData.canLayAll0]
  | cons x xs ih => simp only [dats_cons, PySem.PyData.canLayAll0, (h x List.mem_cons_self).cl, ih fun y m => h y (List.mem_cons_of_mem _ m), Bool.and_self]
theorem fl_depth {xs : List Val} (h : ∀ x ∈ xs, Fl x) : PySem.PyData.depthAll (dats xs) ≤ 9 := by
  induction xs with
  | nil => simp only [dats_nil, PySem.PyData.depthAll]; omega
  | cons x xs ih =>
    have := ih fun y m => h y (List.mem_cons_of_mem _ m)
    have := (h x List.mem_cons_self).d
    simp only [dats_cons, PySem.PyData.depthAll]; omega
theorem fl_shallow {xs : List Val} (h : ∀ x ∈ xs, Fl x) : shallow (.lv xs) = true := by
  unfold shallow PySem.SeqAt.shaped
  simp only [dat, PySem.PyData.canLay0, PySem.PyData.depth, fl_lay h]
  have := fl_depth h
  rw [decide_eq_true (by omega)]
  rfl
theorem fl_deepR {h : Hip} {a : Nat} {xs : List Val} (hx : ∀ x ∈ xs, Fl x) (e : h[a]? = some (.lst xs)) : deep h (.ref a) = some (.lv xs) := by
  unfold deep
  simp only [deepW]
  unfold deepN
  rw [e]
  simp only [fl_deep hx, Option.map_some]
theorem eqvAll_nil {xs : List Val} : PySem.PyData.eqvAll (dats xs) [] = xs.isEmpty := by
  cases xs with
  | nil => simp only [dats_nil, PySem.PyData.eqvAll]; rfl
  | cons x xs => simp only [dats_cons, PySem.PyData.eqvAll]; rfl
theorem eq_nil {h : Hip} {a b : Nat} {xs : List Val} (hx : ∀ x ∈ xs, Fl x) (e : h[a]? = some (.lst xs)) (e2 : h[b]? = some (.lst [])) : eqOp h (.ref a) (.ref b) = some xs.isEmpty := by
  unfold eqOp
  have h0 : ∀ x ∈ ([] : List Val), Fl x := fun x m => by cases m
  simp only [fl_deepR hx e, fl_deepR h0 e2, fl_shallow hx, fl_shallow h0, Bool.and_self, if_pos]
  unfold peq
  simp only [dat, PySem.PyData.eqv, dats_nil, eqvAll_nil]
theorem eqn_C {h : Hip} {a b : Nat} {xs : List Val} (hx : ∀ x ∈ xs, Fl x) (e : h[a]? = some (.lst xs)) (e2 : h[b]? = some (.lst [])) : cmpOp .eq (.ref a) (.ref b) h = some xs.isEmpty := eq_nil hx e e2
theorem nen_C {h : Hip} {a b : Nat} {xs : List Val} (hx : ∀ x ∈ xs, Fl x) (e : h[a]? = some (.lst xs)) (e2 : h[b]? = some (.lst [])) : cmpOp .ne (.ref a) (.ref b) h = some (!xs.isEmpty) := by
  show (eqOp h (.ref a) (.ref b)).map (!·) = _
  rw [eq_nil hx e e2]; rfl
theorem fl_str {s : Str} (o : PySem.PyData.strOk s = true) : Fl (.str s) := ⟨by simp only [refsV], fun _ => by simp only [deepW], by simp only [dat, PySem.PyData.canLay0, o], by simp only [dat, PySem.PyData.depth]; omega⟩
theorem fl_int (i : Int) : Fl (.int i) := ⟨by simp only [refsV], fun _ => by simp only [deepW], by simp only [dat, PySem.PyData.canLay0], by simp only [dat, PySem.PyData.depth]; omega⟩
/-- a call that gives one new list -/
theorem leave_new {xs : List Val} {a : Nat} {g h : Hip} (e : g[a]? = some (.lst xs)) (r : refsVs xs = []) : leaveC [] (.ref a) g h = .ok (.ref h.length) (h ++ [.lst xs]) := by
  unfold leaveC
  have rc : reach g RF [a] [] = [a] := by
    rw [reach_cons RF_pos]
    simp only [List.contains_nil, if_neg Bool.false_ne_true, e, refsO, r, List.append_nil, List.nil_append]
    rw [reach_nil (by decide)]
  have fl : [a].filter (fun i => decide (0 ≤ i)) = [a] := by simp
  have b0 : backTo [] [a] h.length a = some h.length := by simp [backTo, List.idxOf?, List.findIdx?_cons]
  simp only [refsV, List.length_nil, List.take_zero, refsAll, List.append_nil, rc, fl, mapV, b0, Option.map_some, show List.range 0 = [] from rfl]
  simp only [takeO, e, Option.bind_some, lst_map r, putO]
end Z

set_option maxRecDepth 100000
/-! C10: texts of values. -/
namespace Z
open PySem (Str PyData)
theorem ok_of (s : String) : PyData.strOk (Str.ofString s) = true := by
  rw [Str.ofString_eq_toList]
  unfold PyData.strOk
  rw [Array.all_eq_true']
  intro x hx
  rw [List.mem_toArray, List.mem_map] at hx
  obtain ⟨c, _, rfl⟩ := hx
  have := c.valid
  refine decide_eq_true ?_
  rcases this with h | h
  · show c.val.toNat < _; omega
  · show c.val.toNat < _; omega
theorem ok_app {a b : Str} (ha : PyData.strOk a = true) (hb : PyData.strOk b = true) : PyData.strOk (a ++ b) = true := by
  unfold PyData.strOk at *
  show (a.cps ++ b.cps).all _ = true
  rw [Array.all_append, ha, hb]; rfl
theorem ok_join {s : Str} (hs : PyData.strOk s = true) : ∀ {ts : List Str}, (∀ t ∈ ts, PyData.strOk t = true) → PyData.strOk (Str.join s ts) = true
  | [], _ => by show PyData.strOk Str.empty = true; decide +kernel
  | [x], h => h x List.mem_cons_self
  | x :: y :: r, h => by
    show PyData.strOk (x ++ s ++ Str.join s (y :: r)) = true
    exact ok_app (ok_app (h x List.mem_cons_self) hs) (ok_join hs fun t m => h t (List.mem_cons_of_mem _ m))
theorem ok_from : ∀ {ts : List Str} (k : Nat) {acc : Str}, PyData.strOk acc = true → (∀ t ∈ ts, PyData.strOk t = true) → PyData.strOk (PySem.textFrom k acc ts) = true
  | [], _, _, h, _ => h
  | t :: r, k, acc, h, ht => by
    show PyData.strOk (PySem.textFrom (k + 1) (acc ++ (if k > 0 then ", " else "" : String) ++ t) r) = true
    exact ok_from (k + 1) (ok_app (ok_app h (ok_of _)) (ht t List.mem_cons_self)) fun u m => ht u (List.mem_cons_of_mem _ m)
theorem len_join {s : Str} {c : Nat} (hs : s.length ≤ 2) : ∀ {ts : List Str}, (∀ t ∈ ts, t.length ≤ c) → (Str.join s ts).length ≤ ts.length * (c + 2)
  | [], _ => Nat.zero_le _
  | [x], h => by
    have := h x List.mem_cons_self
    show x.length ≤ 1 * (c + 2)
    omega
  | x :: y :: r, h => by
    have := h x List.mem_cons_self
    have ih := len_join (c := c) hs (ts := y :: r) fun t m => h t (List.mem_cons_of_mem _ m)
    show (x ++ s ++ Str.join s (y :: r)).length ≤ _
    rw [PySem.strLen_append, PySem.strLen_append, List.length_cons, Nat.succ_mul]
    omega
theorem len_from {c : Nat} : ∀ {ts : List Str} (k : Nat) (acc : Str), (∀ t ∈ ts, t.length ≤ c) → (PySem.textFrom k acc ts).length ≤ acc.length + ts.length * (c + 2)
  | [], _, acc, _ => by show acc.length ≤ acc.length + _; omega
  | t :: r, k, acc, h => by
    have := h t List.mem_cons_self
    have ih := len_from (c := c) (k + 1) (acc ++ (if k > 0 then ", " else "" : String) ++ t) (ts := r) fun u m => h u (List.mem_cons_of_mem _ m)
    rw [PySem.strLen_append, PySem.strLen_append] at ih
    have e : (Str.ofString (if k > 0 then ", " else "")).length ≤ 2 := by split <;> decide
    show (PySem.textFrom (k + 1) (acc ++ (if k > 0 then ", " else "" : String) ++ t) r).length ≤ _
    rw [List.length_cons, Nat.succ_mul]
    omega
/-- a text of at most c signs -/
structure Sh (c : Nat) (v : Val) : Prop where
  s : PyData.showable (dat v) = true
  o : PyData.strOk (PyData.shown (dat v)) = true
  l : (PyData.shown (dat v)).length ≤ c
theorem Sh.mono {c c' : Nat} {v : Val} (h : Sh c v) (hc : c ≤ c') : Sh c' v := ⟨h.s, h.o, Nat.le_trans h.l hc⟩
theorem sh_int {i : Int} {k : Nat} (hk : 0 < k) (hk2 : k ≤ 1920) (h : i.natAbs.log2 < k) : Sh (k + 1) (.int i) := by
  refine ⟨?_, ?_, ?_⟩
  · simp only [dat, PyData.showable]; exact decide_eq_true (by omega)
  · simp only [dat, PyData.shown]; exact ok_of _
  · simp only [dat, PyData.shown]
    rw [PySem.ofString_length]
    exact PySem.int_text_length_le hk h
theorem shown_all : ∀ xs : List Val, PyData.shownAll (dats xs) = xs.map fun x => PyData.shown (dat x)
  | [] => by simp only [dats_nil, PyData.shownAll, List.map_nil]
  | x :: xs => by simp only [dats_cons, PyData.shownAll, List.map_cons, shown_all xs]
theorem showable_all {xs : List Val} (h : ∀ x ∈ xs, PyData.showable (dat x) = true) : PyData.showableAll (dats xs) = true := by
  induction xs with
  | nil => simp only [dats_nil, PyData.showableAll]
  | cons x xs ih => simp only [dats_cons, PyData.showableAll, h x List.mem_cons_self, ih fun y m => h y (List.mem_cons_of_mem _ m), Bool.and_self]
theorem sh_tup {c : Nat} {xs : List Val} (h : ∀ x ∈ xs, Sh c x) : Sh (xs.length * (c + 2) + 3) (.tup xs) := by
  have ho : ∀ t ∈ xs.map (fun x => PyData.shown (dat x)), PyData.strOk t = true := fun t m => by
    obtain ⟨x, hx, rfl⟩ := List.mem_map.mp m
    exact (h x hx).o
  have hl : ∀ t ∈ xs.map (fun x => PyData.shown (dat x)), t.length ≤ c := fun t m => by
    obtain ⟨x, hx, rfl⟩ := List.mem_map.mp m
    exact (h x hx).l
  refine ⟨?_, ?_, ?_⟩
  · simp only [dat, PyData.showable]; exact showable_all fun x m => (h x m).s
  · simp only [dat, PyData.shown, shown_all]
    unfold PySem.tupleText
    exact ok_app (ok_app (ok_of _) (ok_join (ok_of _) ho)) (ok_of _)
  · simp only [dat, PyData.shown, shown_all]
    unfold PySem.tupleText
    rw [PySem.strLen_append, PySem.strLen_append]
    have e1 : ((("(" : String) : Str)).length = 1 := rfl
    have e3 : (Str.ofString (if (xs.map fun x => PyData.shown (dat x)).length == 1 then ",)" else ")")).length ≤ 2 := by split <;> decide
    have e2 := len_join (s := (", " : String)) (c := c) (by decide) hl
    rw [List.length_map] at e2
    omega
theorem sh_lv {c : Nat} {xs : List Val} (h : ∀ x ∈ xs, Sh c x) : Sh (xs.length * (c + 2) + 3) (.lv xs) := by
  have ho : ∀ t ∈ xs.map (fun x => PyData.shown (dat x)), PyData.strOk t = true := fun t m => by
    obtain ⟨x, hx, rfl⟩ := List.mem_map.mp m
    exact (h x hx).o
  have hl : ∀ t ∈ xs.map (fun x => PyData.shown (dat x)), t.length ≤ c := fun t m => by
    obtain ⟨x, hx, rfl⟩ := List.mem_map.mp m
    exact (h x hx).l
  refine ⟨?_, ?_, ?_⟩
  · simp only [dat, PyData.showable]; exact showable_all fun x m => (h x m).s
  · simp only [dat, PyData.shown, shown_all]
    unfold PySem.listText
    exact ok_app (ok_from 0 (ok_of _) ho) (ok_of _)
  · simp only [dat, PyData.shown, shown_all]
    unfold PySem.listText
    rw [PySem.strLen_append]
    have e1 : ((("[" : String) : Str)).length = 1 := rfl
    have e3 : ((("]" : String) : Str)).length = 1 := rfl
    have e2 := len_from (c := c) 0 ("[" : String) hl
    rw [List.length_map] at e2
    omega
theorem repr_of {h : Hip} {v d : Val} {c : Nat} (hd : deep h v = some d) (hs : shallow d = true) (h1 : Sh c d) (hc : c < 16777216) : biOp .repr [v] h = .ok (.str (PyData.shown (dat d))) h := by
  show ok? (reprOp h v) Val.str h = _
  unfold reprOp
  have hl := h1.l
  simp only [hd, h1.s, hs, fits_of (show (PyData.shown (dat d)).length < 16777216 by omega), Bool.and_self, if_pos, ok?]
theorem fl_deepV {v : Val} (h : Fl v) (H : Hip) : deep H v = some v := h.dp _
theorem fl_shal {v : Val} (h : Fl v) : shallow v = true := by
  unfold shallow PySem.SeqAt.shaped
  have := h.d
  rw [h.cl, decide_eq_true (by omega)]; rfl
theorem fl_vI (l : List Int) : Fl (.tup (vI l)) := ⟨by simp only [refsV, vI_refs], fun _ => by simp only [deepW, deepWs_vI, Option.map_some], by simp only [dat, PyData.canLay0, canLay_vI], by simp only [dat, PyData.depth, depth_vI]; omega⟩
theorem fl_vT (l : List (List Int)) : Fl (.tup (vT l)) := ⟨by simp only [refsV, vT_refs], fun _ => by simp only [deepW, deepWs_vT, Option.map_some], by simp only [dat, PyData.canLay0, canLay_vT], by
  have := depth_vT l
  simp only [dat, PyData.depth]; omega⟩
theorem eq_same (h : Hip) {s : Str} (o : PyData.strOk s = true) : cmpOp .eq (.str s) (.str s) h = some true := by
  rw [eq_strC h o o, decide_eq_true rfl]
theorem sh_ints {l : List Int} (h : ∀ x ∈ l, 0 ≤ x ∧ x < 1000) : Sh (l.length * 13 + 3) (.tup (vI l)) := by
  have := sh_tup (c := 11) (xs := vI l) fun v m => by
    obtain ⟨x, hx, rfl⟩ := List.mem_map.mp m
    have b := h x hx
    refine sh_int (k := 10) (by omega) (by omega) ?_
    have : x.natAbs < 2 ^ 10 := by omega
    by_cases h0 : x.natAbs = 0
    · rw [h0]; decide
    · exact (Nat.log2_lt h0).mpr this
  rw [vI_len] at this
  exact this
end Z

set_option maxRecDepth 100000
/-! C11: loops by an invariant; the heap behind the state. -/
namespace Z
open PySem (Str PyData)
theorem forL_inv {k : Wk} {f : Val → Env → Hip → Res (Flow × Env)} {I : Nat → Env → Hip → Prop} (N : Nat) (hat : ∀ i n ρ h, I n ρ h → k.at i h = true) :
    ∀ (xs : List Val) (i n : Nat) (ρ : Env) (h : Hip), n + xs.length ≤ N → I n ρ h → (∀ x ∈ xs, ∀ n ρ h, n < N → I n ρ h → ∃ ρ' h', I (n + 1) ρ' h' ∧ f x ρ h = .ok (.nx, ρ') h') →
      ∃ ρ' h', I (n + xs.length) ρ' h' ∧ forL k f i xs ρ h = .ok (.nx, ρ') h'
  | [], i, n, ρ, h, _, hI, _ => ⟨ρ, h, hI, by unfold forL; rw [if_pos (hat i n ρ h hI)]⟩
  | x :: xs, i, n, ρ, h, hN, hI, st => by
    rw [List.length_cons] at hN
    obtain ⟨ρ1, h1, I1, e1⟩ := st x List.mem_cons_self n ρ h (by omega) hI
    obtain ⟨ρ', h', I2, e2⟩ := forL_inv N hat xs (i + 1) (n + 1) ρ1 h1 (by omega) I1 fun z m => st z (List.mem_cons_of_mem _ m)
    refine ⟨ρ', h', by rw [List.length_cons, show n + (xs.length + 1) = n + 1 + xs.length by omega]; exact I2, ?_⟩
    unfold forL
    rw [if_pos (hat i n ρ h hI), e1]
    exact e2
/-- the state, and what lies behind it -/
def SB (cs gs : List Int) (s : Nat) (g : Hip) : Hip := stO 1 2 s :: .lst (vI cs) :: .lst (vI gs) :: g
theorem sb_al {cs gs : List Int} {s : Nat} {g : Hip} (o : Ob) : alloc o (SB cs gs s g) = .ok (.ref (g.length + 3)) (SB cs gs s (g ++ [o])) := rfl
theorem sb_get {cs gs : List Int} {s k : Nat} {g : Hip} {o : Ob} (e : g[k]? = some o) : (SB cs gs s g)[k + 3]? = some o := e
theorem sb_new {cs gs : List Int} {s : Nat} {g : Hip} {o : Ob} : (SB cs gs s (g ++ [o]))[g.length + 3]? = some o := by
  show (g ++ [o])[g.length]? = some o
  exact get_new
theorem sb_at {cs gs : List Int} {s : Nat} {g : Hip} (hc : cs.length = 64) : StA (SB cs gs s g) 0 1 2 cs gs s := ⟨rfl, rfl, rfl, by decide, by decide, by decide, hc⟩
theorem sb_go {cs gs gs' : List Int} {s s' : Nat} {g : Hip} : goOn (SB cs gs s g) 0 1 2 cs gs' s' = SB cs gs' s' g := rfl
theorem e_or1 {P : Pg} {cf : CF} {ρ : Env} {h h1 : Hip} {a b : IE} {r : Res Val} (ha : evE P cf a ρ h = .ok (.bl false) h1) (hb : evE P cf b ρ h1 = r) : evE P cf (.or2 a b) ρ h = r := by
  simp only [evE, ha, Res.bind, hb]
theorem e_orT {P : Pg} {cf : CF} {ρ : Env} {h h1 : Hip} {a b : IE} (ha : evE P cf a ρ h = .ok (.bl true) h1) : evE P cf (.or2 a b) ρ h = .ok (.bl true) h1 := by
  simp only [evE, ha, Res.bind]
theorem e_and1 {P : Pg} {cf : CF} {ρ : Env} {h h1 : Hip} {a b : IE} {r : Res Val} (ha : evE P cf a ρ h = .ok (.bl true) h1) (hb : evE P cf b ρ h1 = r) : evE P cf (.and2 a b) ρ h = r := by
  simp only [evE, ha, Res.bind, hb]
theorem e_andF {P : Pg} {cf : CF} {ρ : Env} {h h1 : Hip} {a b : IE} (ha : evE P cf a ρ h = .ok (.bl false) h1) : evE P cf (.and2 a b) ρ h = .ok (.bl false) h1 := by
  simp only [evE, ha, Res.bind]
theorem ec_callK {P : Pg} {cf : CF} {ρ : Env} {h h1 : Hip} {f : Nat} {perm : List Nat} {es : IEs} {vs us : List Val} {r : Res Val} (he : evEs P cf es ρ h = .ok vs h1) (hp : permute perm vs = us) (hr : cf f us h1 = r) : evE P cf (.callK f perm es) ρ h = r := by
  simp only [evE, he, Res.bind, hp, hr]
theorem e_bi {P : Pg} {cf : CF} {ρ : Env} {h h1 : Hip} {b : Bi} {es : IEs} {vs : List Val} {r : Res Val} (he : evEs P cf es ρ h = .ok vs h1) (hb : biOp b vs h1 = r) : evE P cf (.bi b es) ρ h = r := by
  simp only [evE, he, Res.bind, hb]
theorem min2_int (a b : Nat) (h : Hip) : biOp .min2 [.int (a : Nat), .int (b : Nat)] h = .ok (.int ((min a b : Nat) : Int)) h := by
  show Res.ok (Val.int (if (b : Int) < (a : Int) then (b : Int) else (a : Int))) h = _
  congr 2
  rcases Nat.le_total a b with q | q
  · rw [Nat.min_eq_left q, if_neg (by omega)]
  · rw [Nat.min_eq_right q]
    split <;> omega
theorem max2_int (a b : Nat) (h : Hip) : biOp .max2 [.int (a : Nat), .int (b : Nat)] h = .ok (.int ((max a b : Nat) : Int)) h := by
  show Res.ok (Val.int (if (b : Int) > (a : Int) then (b : Int) else (a : Int))) h = _
  congr 2
  rcases Nat.le_total a b with q | q
  · rw [Nat.max_eq_right q]
    split <;> omega
  · rw [Nat.max_eq_left q, if_neg (by omega)]
theorem len_lv (l : List Int) (h : Hip) : biOp .len [.lv (vI l)] h = .ok (.int (l.length : Nat)) h := by
  show ok? (lenOp h (.lv (vI l))) (fun n => Val.int (n : Int)) h = _
  show Res.ok (Val.int ((vI l).length : Nat)) h = _
  rw [vI_len]
end Z

namespace K97
open PySem Z L2
def top (i : Nat) : PySem.Stmt := PySem.Challenge.pw_hookedcords_k97_whole_rings_of_halves.main.body.getD i (.Pass ⟨0, 0, 0, 0⟩)
/-! is_number -/
def b0 : ISs := (.cons (.ret (.and2 (.bi .isInt (.cons (.var 0) .nil)) (.not1 (.bi .isBool (.cons (.var 0) .nil))))) .nil)
def d0 : FD := ⟨1, 1, b0⟩
abbrev s0 : PySem.Stmt := top 8
abbrev N0 : List PySem.Str := ["value"]
abbrev p0 : List PySem.Str := ["value"]
/-! is_within -/
def b1 : ISs := (.cons (.ret (.and2 (.call 0 (.cons (.var 0) .nil)) (.chain .le .le (.var 1) (.var 0) (.var 2)))) .nil)
def d1 : FD := ⟨3, 3, b1⟩
abbrev s1 : PySem.Stmt := top 9
abbrev N1 : List PySem.Str := ["value", "least", "most"]
abbrev p1 : List PySem.Str := ["value", "least", "most"]
/-! is_tuple_of -/
def b2 : ISs := (.cons (.ret (.and2 (.bi .isTuple (.cons (.var 0) .nil)) (.cmp .eq (.bi .len (.cons (.var 0) .nil)) (.var 1)))) .nil)
def d2 : FD := ⟨2, 2, b2⟩
abbrev s2 : PySem.Stmt := top 10
abbrev N2 : List PySem.Str := ["value", "many"]
abbrev p2 : List PySem.Str := ["value", "many"]
/-! need_cords -/
def b3 : ISs := (.cons (.cond (.not1 (.call 1 (.cons (.var 0) (.cons (.con (.int 1)) (.cons (.con (.int 5)) .nil))))) (.cons .raise .nil) .nil) (.cons (.ret (.var 0)) .nil))
def d3 : FD := ⟨1, 1, b3⟩
abbrev s3 : PySem.Stmt := top 11
abbrev N3 : List PySem.Str := ["cords"]
abbrev p3 : List PySem.Str := ["cords"]
/-! need_figure -/
def b4_0 : ISs := (.cons (.cond (.not1 (.call 1 (.cons (.var 4) (.cons (.con (.int 0)) (.cons (.bin .add (.var 2) (.con (.int 1))) .nil))))) (.cons .raise .nil) .nil) (.cons (.asg (.nm 2) (.bi .max2 (.cons (.var 2) (.cons (.var 4) .nil)))) .nil))
def b4 : ISs := (.cons (.cond (.not1 (.call 2 (.cons (.var 1) (.cons (.bin .mul (.con (.int 2)) (.var 0)) .nil)))) (.cons .raise .nil) .nil) (.cons (.asg (.nm 2) (.neg (.con (.int 1)))) (.cons (.loop (.tp [3, 4]) (.enum (.var 1)) b4_0) (.cons (.ret (.var 1)) .nil))))
def d4 : FD := ⟨2, 5, b4⟩
abbrev s4 : PySem.Stmt := top 12
abbrev N4 : List PySem.Str := ["cords", "figure", "most", "point", "piece"]
abbrev p4 : List PySem.Str := ["cords", "figure"]
/-! named_in -/
def b5_0 : ISs := (.cons (.cond (.cmp .notin (.var 1) (.var 2)) (.cons (.setIx (.var 2) (.var 1) (.bi .len (.cons (.var 2) .nil))) .nil) .nil) (.cons (.expr (.bm .append (.var 3) (.cons (.ix (.var 2) (.var 1)) .nil))) .nil))
def b5 : ISs := (.cons (.asg (.tp [2, 3]) (.tup (.cons (.dct [] .nil) (.cons (.lst .nil) .nil)))) (.cons (.loop (.nm 1) (.seq (.var 0)) b5_0) (.cons (.ret (.bi .tupleOf (.cons (.var 3) .nil))) .nil)))
def d5 : FD := ⟨1, 4, b5⟩
abbrev s5 : PySem.Stmt := top 13
abbrev N5 : List PySem.Str := ["marks", "mark", "numbers", "found"]
abbrev p5 : List PySem.Str := ["marks"]
/-! straight_in -/
def b6 : ISs := (.cons (.ret (.bi .tupleOf (.cons (.bin .mul (.lrange (.cons (.var 0) .nil)) (.con (.int 2))) .nil))) .nil)
def d6 : FD := ⟨1, 1, b6⟩
abbrev s6 : PySem.Stmt := top 14
abbrev N6 : List PySem.Str := ["cords"]
abbrev p6 : List PySem.Str := ["cords"]
/-! first_of -/
def b7_0 : IE := (.cmp .ne (.ix (.var 0) (.var 1)) (.var 1))
def b7_1 : ISs := (.cons (.asg (.nm 1) (.ix (.var 0) (.var 1))) .nil)
def b7 : ISs := (.cons (.whil b7_0 b7_1) (.cons (.ret (.var 1)) .nil))
def d7 : FD := ⟨2, 2, b7⟩
abbrev s7 : PySem.Stmt := top 15
abbrev N7 : List PySem.Str := ["links", "one"]
abbrev p7 : List PySem.Str := ["links", "one"]
/-! linked -/
def b8 : ISs := (.cons (.asg (.tp [3, 4]) (.tup (.cons (.call 7 (.cons (.var 0) (.cons (.var 1) .nil))) (.cons (.call 7 (.cons (.var 0) (.cons (.var 2) .nil))) .nil)))) (.cons (.setIx (.var 0) (.bi .max2 (.cons (.var 3) (.cons (.var 4) .nil))) (.bi .min2 (.cons (.var 3) (.cons (.var 4) .nil)))) .nil))
def d8 : FD := ⟨3, 5, b8⟩
abbrev s8 : PySem.Stmt := top 16
abbrev N8 : List PySem.Str := ["links", "near", "far", "one", "two"]
abbrev p8 : List PySem.Str := ["links", "near", "far"]
/-! upon_in -/
def b9_0 : ISs := (.cons (.expr (.call 8 (.cons (.var 4) (.cons (.ix (.var 1) (.bin .add (.var 0) (.var 5))) (.cons (.bin .add (.var 3) (.ix (.var 2) (.var 5))) .nil))))) .nil)
def b9_1 : IO := .no
def b9_2 : IE := (.call 7 (.cons (.var 4) (.cons (.var 8) .nil)))
def b9_3 : IO := .no
def b9_4 : IE := (.call 7 (.cons (.var 4) (.cons (.bin .add (.var 3) (.var 8)) .nil)))
def b9_5 : IO := .no
def b9_6 : IE := (.call 7 (.cons (.var 4) (.cons (.var 8) .nil)))
def b9_7 : IO := (.so (.cmp .notin (.var 9) (.var 6)))
def b9_8 : IE := (.var 9)
def b9 : ISs := (.cons (.asg (.nm 3) (.bin .mul (.con (.int 2)) (.var 0))) (.cons (.asg (.nm 4) (.lrange (.cons (.bin .mul (.con (.int 2)) (.var 3)) .nil))) (.cons (.loop (.nm 5) (.range (.cons (.var 0) .nil)) b9_0) (.cons (.asg (.nm 6) (.lc [8] (.nm 8) (.seq (.sl (.var 1) .no (.so (.var 0)))) b9_1 b9_2)) (.cons (.aug 6 .add (.lc [8] (.nm 8) (.seq (.sl (.var 2) (.so (.var 0)) .no)) b9_3 b9_4)) (.cons (.asg (.nm 7) (.sc [8] (.nm 8) (.seq (.sl (.var 1) (.so (.var 0)) .no)) b9_5 b9_6)) (.cons (.ret (.tup (.cons (.call 5 (.cons (.var 6) .nil)) (.cons (.bi .len (.cons (.lc [9] (.nm 9) (.seq (.bi .sorted (.cons (.var 7) .nil))) b9_7 b9_8) .nil)) .nil)))) .nil)))))))
def d9 : FD := ⟨3, 10, b9⟩
abbrev s9 : PySem.Stmt := top 17
abbrev N9 : List PySem.Str := ["cords", "near", "far", "base", "links", "place", "outer", "between", "piece", "one"]
abbrev p9 : List PySem.Str := ["cords", "near", "far"]
/-! need_ground -/
def b47 : ISs := (.cons (.expr (.call 3 (.cons (.var 0) .nil))) (.cons (.expr (.call 4 (.cons (.var 0) (.cons (.var 1) .nil)))) .nil))
def d47 : FD := ⟨2, 2, b47⟩
abbrev s47 : PySem.Stmt := top 19
abbrev N47 : List PySem.Str := ["cords", "figure"]
abbrev p47 : List PySem.Str := ["cords", "figure"]
/-! need_two -/
def b48 : ISs := (.cons (.expr (.call 47 (.cons (.var 0) (.cons (.var 1) .nil)))) (.cons (.expr (.call 4 (.cons (.var 0) (.cons (.var 2) .nil)))) .nil))
def d48 : FD := ⟨3, 3, b48⟩
abbrev s48 : PySem.Stmt := top 20
abbrev N48 : List PySem.Str := ["cords", "figure", "other"]
abbrev p48 : List PySem.Str := ["cords", "figure", "other"]
/-! rank_in -/
def b49_0 : IO := (.so (.cmp .isin (.var 2) (.sl (.var 1) (.so (.var 0)) .no)))
def b49_1 : IE := (.var 2)
def b49 : ISs := (.cons (.ret (.bi .len (.cons (.sc [2] (.nm 2) (.seq (.sl (.var 1) .no (.so (.var 0)))) b49_0 b49_1) .nil))) .nil)
def d49 : FD := ⟨2, 3, b49⟩
abbrev s49 : PySem.Stmt := top 21
abbrev N49 : List PySem.Str := ["cords", "figure", "piece"]
abbrev p49 : List PySem.Str := ["cords", "figure"]
/-! rank_of -/
def b50 : ISs := (.cons (.expr (.call 47 (.cons (.var 0) (.cons (.var 1) .nil)))) (.cons (.ret (.call 49 (.cons (.var 0) (.cons (.var 1) .nil)))) .nil))
def d50 : FD := ⟨2, 2, b50⟩
abbrev s50 : PySem.Stmt := top 22
abbrev N50 : List PySem.Str := ["cords", "figure"]
abbrev p50 : List PySem.Str := ["cords", "figure"]
/-! left_over -/
def b51 : ISs := (.cons (.expr (.call 48 (.cons (.var 0) (.cons (.var 1) (.cons (.var 2) .nil))))) (.cons (.ret (.ix (.call 9 (.cons (.var 0) (.cons (.var 1) (.cons (.var 2) .nil)))) (.con (.int 1)))) .nil))
def d51 : FD := ⟨3, 3, b51⟩
abbrev s51 : PySem.Stmt := top 23
abbrev N51 : List PySem.Str := ["cords", "figure", "other"]
abbrev p51 : List PySem.Str := ["cords", "figure", "other"]
/-! is_pieces -/
def b52_0 : ISs := (.cons (.cond (.not1 (.call 1 (.cons (.var 3) (.cons (.con (.int 0)) (.cons (.bin .add (.var 2) (.con (.int 1))) .nil))))) (.cons (.ret (.con (.bl false))) .nil) .nil) (.cons (.asg (.nm 2) (.bi .max2 (.cons (.var 2) (.cons (.var 3) .nil)))) .nil))
def b52 : ISs := (.cons (.cond (.not1 (.call 2 (.cons (.var 1) (.cons (.var 0) .nil)))) (.cons (.ret (.con (.bl false))) .nil) .nil) (.cons (.asg (.nm 2) (.neg (.con (.int 1)))) (.cons (.loop (.nm 3) (.seq (.var 1)) b52_0) (.cons (.ret (.con (.bl true))) .nil))))
def d52 : FD := ⟨2, 4, b52⟩
abbrev s52 : PySem.Stmt := top 25
abbrev N52 : List PySem.Str := ["cords", "value", "most", "piece"]
abbrev p52 : List PySem.Str := ["cords", "value"]
/-! is_open -/
def b53_0 : IO := .no
def b53_1 : IE := (.call 1 (.cons (.var 3) (.cons (.con (.int 0)) (.cons (.bi .max1 (.cons (.var 0) .nil)) .nil))))
def b53_2 : IO := .no
def b53_3 : IE := (.cmp .lt (.ix (.var 1) (.var 2)) (.ix (.var 1) (.bin .add (.var 2) (.con (.int 1)))))
def b53 : ISs := (.cons (.cond (.or2 (.not1 (.bi .isTuple (.cons (.var 1) .nil))) (.not1 (.bi .all (.cons (.lc [3] (.nm 3) (.seq (.var 1)) b53_0 b53_1) .nil)))) (.cons (.ret (.con (.bl false))) .nil) .nil) (.cons (.ret (.bi .all (.cons (.lc [2] (.nm 2) (.range (.cons (.bin .sub (.bi .len (.cons (.var 1) .nil)) (.con (.int 1))) .nil)) b53_2 b53_3) .nil))) .nil))
def d53 : FD := ⟨2, 4, b53⟩
abbrev s53 : PySem.Stmt := top 26
abbrev N53 : List PySem.Str := ["pieces", "value", "spot", "piece"]
abbrev p53 : List PySem.Str := ["pieces", "value"]
/-! asked_half -/
def b54 : ISs := (.cons (.cond (.not1 (.call 2 (.cons (.var 1) (.cons (.con (.int 2)) .nil)))) (.cons .raise .nil) .nil) (.cons (.cond (.not1 (.call 52 (.cons (.var 0) (.cons (.ix (.var 1) (.con (.int 0))) .nil)))) (.cons .raise .nil) .nil) (.cons (.cond (.not1 (.call 53 (.cons (.ix (.var 1) (.con (.int 0))) (.cons (.ix (.var 1) (.con (.int 1))) .nil)))) (.cons .raise .nil) .nil) (.cons (.ret (.var 1)) .nil))))
def d54 : FD := ⟨2, 2, b54⟩
abbrev s54 : PySem.Stmt := top 27
abbrev N54 : List PySem.Str := ["cords", "half"]
abbrev p54 : List PySem.Str := ["cords", "half"]
/-! need_half -/
def b55 : ISs := (.cons (.ret (.call 54 (.cons (.call 3 (.cons (.var 0) .nil)) (.cons (.var 1) .nil)))) .nil)
def d55 : FD := ⟨2, 2, b55⟩
abbrev s55 : PySem.Stmt := top 28
abbrev N55 : List PySem.Str := ["cords", "half"]
abbrev p55 : List PySem.Str := ["cords", "half"]
/-! half_in -/
def b56_0 : IO := (.so (.cmp .isin (.var 5) (.var 1)))
def b56_1 : IE := (.ix (.var 2) (.var 4))
def b56 : ISs := (.cons (.asg (.nm 2) (.call 5 (.cons (.var 0) .nil))) (.cons (.asg (.nm 3) (.bi .sorted (.cons (.sc [4, 5] (.tp [4, 5]) (.enum (.var 0)) b56_0 b56_1) .nil))) (.cons (.ret (.tup (.cons (.var 2) (.cons (.bi .tupleOf (.cons (.var 3) .nil)) .nil)))) .nil)))
def d56 : FD := ⟨2, 6, b56⟩
abbrev s56 : PySem.Stmt := top 29
abbrev N56 : List PySem.Str := ["near", "far", "pieces", "opened", "place", "piece"]
abbrev p56 : List PySem.Str := ["near", "far"]
/-! upper_in -/
def b57 : ISs := (.cons (.ret (.call 56 (.cons (.sl (.var 1) .no (.so (.var 0))) (.cons (.sl (.var 1) (.so (.var 0)) .no) .nil)))) .nil)
def d57 : FD := ⟨2, 2, b57⟩
abbrev s57 : PySem.Stmt := top 30
abbrev N57 : List PySem.Str := ["cords", "figure"]
abbrev p57 : List PySem.Str := ["cords", "figure"]
/-! lower_in -/
def b58 : ISs := (.cons (.ret (.call 56 (.cons (.sl (.var 1) (.so (.var 0)) .no) (.cons (.sl (.var 1) .no (.so (.var 0))) .nil)))) .nil)
def d58 : FD := ⟨2, 2, b58⟩
abbrev s58 : PySem.Stmt := top 31
abbrev N58 : List PySem.Str := ["cords", "figure"]
abbrev p58 : List PySem.Str := ["cords", "figure"]
/-! upper_half -/
def b59 : ISs := (.cons (.expr (.call 47 (.cons (.var 0) (.cons (.var 1) .nil)))) (.cons (.ret (.call 57 (.cons (.var 0) (.cons (.var 1) .nil)))) .nil))
def d59 : FD := ⟨2, 2, b59⟩
abbrev s59 : PySem.Stmt := top 32
abbrev N59 : List PySem.Str := ["cords", "figure"]
abbrev p59 : List PySem.Str := ["cords", "figure"]
/-! lower_half -/
def b60 : ISs := (.cons (.expr (.call 47 (.cons (.var 0) (.cons (.var 1) .nil)))) (.cons (.ret (.call 58 (.cons (.var 0) (.cons (.var 1) .nil)))) .nil))
def d60 : FD := ⟨2, 2, b60⟩
abbrev s60 : PySem.Stmt := top 33
abbrev N60 : List PySem.Str := ["cords", "figure"]
abbrev p60 : List PySem.Str := ["cords", "figure"]
/-! joined_halves -/
def b61_0 : IO := .no
def b61_1 : IE := (.ix (.ix (.var 2) (.con (.int 1))) (.var 6))
def b61_2 : IE := (.ix (.ix (.var 0) (.con (.int 1))) (.var 5))
def b61_3 : IO := .no
def b61_4 : IE := (.dget3 (.var 4) (.var 7) (.bin .add (.var 3) (.var 7)))
def b61 : ISs := (.cons (.asg (.nm 3) (.bi .len (.cons (.ix (.var 0) (.con (.int 0))) .nil))) (.cons (.asg (.nm 4) (.dc [5, 6] (.tp [5, 6]) (.enum (.var 1)) b61_0 b61_1 b61_2)) (.cons (.ret (.call 5 (.cons (.bin .add (.ix (.var 0) (.con (.int 0))) (.bi .tupleOf (.cons (.lc [7] (.nm 7) (.seq (.ix (.var 2) (.con (.int 0)))) b61_3 b61_4) .nil))) .nil))) .nil)))
def d61 : FD := ⟨3, 8, b61⟩
abbrev s61 : PySem.Stmt := top 34
abbrev N61 : List PySem.Str := ["half", "meeting", "far_half", "base", "names", "number", "spot", "piece"]
abbrev p61 : List PySem.Str := ["half", "meeting", "far_half"]
/-! is_meeting -/
def b62_0 : IO := .no
def b62_1 : IE := (.call 1 (.cons (.var 3) (.cons (.con (.int 0)) (.cons (.bin .sub (.var 2) (.con (.int 1))) .nil))))
def b62 : ISs := (.cons (.asg (.nm 2) (.bi .len (.cons (.ix (.var 0) (.con (.int 1))) .nil))) (.cons (.cond (.or2 (.not1 (.call 2 (.cons (.var 1) (.cons (.var 2) .nil)))) (.not1 (.bi .all (.cons (.lc [3] (.nm 3) (.seq (.var 1)) b62_0 b62_1) .nil)))) (.cons (.ret (.con (.bl false))) .nil) .nil) (.cons (.ret (.cmp .eq (.bi .sorted (.cons (.var 1) .nil)) (.lrange (.cons (.var 2) .nil)))) .nil)))
def d62 : FD := ⟨2, 4, b62⟩
abbrev s62 : PySem.Stmt := top 35
abbrev N62 : List PySem.Str := ["half", "value", "many", "one"]
abbrev p62 : List PySem.Str := ["half", "value"]
/-! figure_of_halves -/
def b63 : ISs := (.cons (.expr (.call 55 (.cons (.var 0) (.cons (.var 1) .nil)))) (.cons (.cond (.not1 (.call 62 (.cons (.var 1) (.cons (.var 2) .nil)))) (.cons .raise .nil) .nil) (.cons (.expr (.call 54 (.cons (.var 0) (.cons (.var 3) .nil)))) (.cons (.cond (.cmp .ne (.bi .len (.cons (.ix (.var 3) (.con (.int 1))) .nil)) (.bi .len (.cons (.ix (.var 1) (.con (.int 1))) .nil))) (.cons .raise .nil) .nil) (.cons (.ret (.call 61 (.cons (.var 1) (.cons (.var 2) (.cons (.var 3) .nil))))) .nil)))))
def d63 : FD := ⟨4, 4, b63⟩
abbrev s63 : PySem.Stmt := top 36
abbrev N63 : List PySem.Str := ["cords", "half", "meeting", "far_half"]
abbrev p63 : List PySem.Str := ["cords", "half", "meeting", "far_half"]
/-! open_in -/
def b64_0 : IO := (.so (.cmp .isin (.var 3) (.var 1)))
def b64_1 : IE := (.var 2)
def b64 : ISs := (.cons (.ret (.bi .tupleOf (.cons (.lc [2, 3] (.tp [2, 3]) (.enum (.ix (.var 0) (.con (.int 1)))) b64_0 b64_1) .nil))) .nil)
def d64 : FD := ⟨2, 4, b64⟩
abbrev s64 : PySem.Stmt := top 37
abbrev N64 : List PySem.Str := ["half", "lot", "number", "piece"]
abbrev p64 : List PySem.Str := ["half", "lot"]
/-! hung -/
def b65_0 : ISs := (.cons (.expr (.call 8 (.cons (.var 3) (.cons (.var 4) (.cons (.bin .add (.var 0) (.var 5)) .nil))))) .nil)
def b65_1 : IO := (.so (.cmp .eq (.call 7 (.cons (.var 3) (.cons (.var 12) .nil))) (.var 9)))
def b65_2 : IE := (.var 12)
def b65_3 : IO := (.so (.cmp .eq (.call 7 (.cons (.var 3) (.cons (.bin .add (.var 0) (.var 12)) .nil))) (.var 9)))
def b65_4 : IE := (.var 12)
def b65_5 : ISs := (.cons (.asg (.nm 9) (.call 7 (.cons (.var 3) (.cons (.var 4) .nil)))) (.cons (.cond (.cmp .notin (.var 9) (.var 8)) (.cons (.expr (.bm .append (.var 8) (.cons (.var 9) .nil))) (.cons (.asg (.nm 10) (.call 64 (.cons (.var 1) (.cons (.lc [12] (.nm 12) (.range (.cons (.var 0) .nil)) b65_1 b65_2) .nil)))) (.cons (.asg (.nm 11) (.call 64 (.cons (.var 2) (.cons (.lc [12] (.nm 12) (.range (.cons (.var 0) .nil)) b65_3 b65_4) .nil)))) (.cons (.cond (.and2 (.cmp .eq (.var 10) (.tup .nil)) (.cmp .eq (.var 11) (.tup .nil))) (.cons (.aug 7 .add (.con (.int 1))) .nil) (.cons (.expr (.bm .append (.var 6) (.cons (.tup (.cons (.var 10) (.cons (.var 11) .nil))) .nil))) .nil)) .nil)))) .nil) .nil))
def b65 : ISs := (.cons (.expr (.call 55 (.cons (.var 0) (.cons (.var 1) .nil)))) (.cons (.expr (.call 54 (.cons (.var 0) (.cons (.var 2) .nil)))) (.cons (.asg (.nm 3) (.lrange (.cons (.bin .mul (.con (.int 2)) (.var 0)) .nil))) (.cons (.loop (.tp [4, 5]) (.zip (.ix (.var 1) (.con (.int 0))) (.ix (.var 2) (.con (.int 0)))) b65_0) (.cons (.asg (.tp [6, 7, 8]) (.tup (.cons (.lst .nil) (.cons (.con (.int 0)) (.cons (.lst .nil) .nil))))) (.cons (.loop (.nm 4) (.seq (.ix (.var 1) (.con (.int 0)))) b65_5) (.cons (.ret (.tup (.cons (.bi .tupleOf (.cons (.var 6) .nil)) (.cons (.var 7) .nil)))) .nil)))))))
def d65 : FD := ⟨3, 13, b65⟩
abbrev s65 : PySem.Stmt := top 38
abbrev N65 : List PySem.Str := ["cords", "half", "far_half", "links", "piece", "far_piece", "chains", "rings", "seen", "one", "nears", "fars", "lot"]
abbrev p65 : List PySem.Str := ["cords", "half", "far_half"]
/-! Powers.__init__ -/
def b10_0 : IE := (.cmp .isN (.fld (.var 0) 4) (.con .non))
def b10_1 : ISs := (.cons (.asg (.tp [3, 4]) (.call 9 (.cons (.var 1) (.cons (.ix (.fld (.var 0) 2) (.neg (.con (.int 1)))) (.cons (.var 2) .nil))))) (.cons (.expr (.bm .append (.fld (.var 0) 3) (.cons (.var 4) .nil))) (.cons (.cond (.cmp .isin (.var 3) (.fld (.var 0) 2)) (.cons (.setFld (.var 0) 4 (.bm .index (.fld (.var 0) 2) (.cons (.var 3) .nil))) .nil) (.cons (.expr (.bm .append (.fld (.var 0) 2) (.cons (.var 3) .nil))) .nil)) .nil)))
def b10 : ISs := (.cons (.setFld (.var 0) 0 (.var 1)) (.cons (.setFld (.var 0) 1 (.var 2)) (.cons (.setFld (.var 0) 2 (.lst (.cons (.call 6 (.cons (.var 1) .nil)) .nil))) (.cons (.setFld (.var 0) 3 (.lst .nil)) (.cons (.setFld (.var 0) 4 (.con .non)) (.cons (.whil b10_0 b10_1) .nil))))))
def d10 : FD := ⟨3, 5, b10⟩
abbrev s10 : PySem.Stmt := inClass (top 41) 0
abbrev N10 : List PySem.Str := ["self", "cords", "figure", "behind", "left"]
abbrev p10 : List PySem.Str := ["self", "cords", "figure"]
/-! Powers.step -/
def b11 : ISs := (.cons (.ret (.bin .sub (.bi .len (.cons (.fld (.var 0) 2) .nil)) (.fld (.var 0) 4))) .nil)
def d11 : FD := ⟨1, 1, b11⟩
abbrev s11 : PySem.Stmt := inClass (top 41) 1
abbrev N11 : List PySem.Str := ["self"]
abbrev p11 : List PySem.Str := ["self"]
/-! Powers.spot -/
def b12 : ISs := (.cons (.cond (.cmp .lt (.var 1) (.bi .len (.cons (.fld (.var 0) 2) .nil))) (.cons (.ret (.var 1)) .nil) .nil) (.cons (.ret (.bin .add (.fld (.var 0) 4) (.bin .mod (.bin .sub (.var 1) (.fld (.var 0) 4)) (.meth (.var 0) 5 .nil)))) .nil))
def d12 : FD := ⟨2, 2, b12⟩
abbrev s12 : PySem.Stmt := inClass (top 41) 2
abbrev N12 : List PySem.Str := ["self", "many"]
abbrev p12 : List PySem.Str := ["self", "many"]
/-! Powers.power -/
def b13 : ISs := (.cons (.ret (.ix (.fld (.var 0) 2) (.meth (.var 0) 6 (.cons (.var 1) .nil)))) .nil)
def d13 : FD := ⟨2, 2, b13⟩
abbrev s13 : PySem.Stmt := inClass (top 41) 3
abbrev N13 : List PySem.Str := ["self", "many"]
abbrev p13 : List PySem.Str := ["self", "many"]
/-! Powers.leftovers -/
def b37 : ISs := (.cons (.asg (.nm 2) (.fld (.var 0) 3)) (.cons (.cond (.cmp .le (.var 1) (.bi .len (.cons (.var 2) .nil))) (.cons (.ret (.bi .sum (.cons (.sl (.var 2) .no (.so (.var 1))) .nil))) .nil) .nil) (.cons (.asg (.nm 3) (.sl (.var 2) (.so (.fld (.var 0) 4)) .no)) (.cons (.asg (.tp [4, 5]) (.bi .divmod (.cons (.bin .sub (.var 1) (.fld (.var 0) 4)) (.cons (.bi .len (.cons (.var 3) .nil)) .nil)))) (.cons (.ret (.bin .add (.bin .add (.bi .sum (.cons (.sl (.var 2) .no (.so (.fld (.var 0) 4))) .nil)) (.bin .mul (.var 4) (.bi .sum (.cons (.var 3) .nil)))) (.bi .sum (.cons (.sl (.var 3) .no (.so (.var 5))) .nil)))) .nil)))))
def d37 : FD := ⟨2, 6, b37⟩
abbrev s37 : PySem.Stmt := inClass (top 41) 4
abbrev N37 : List PySem.Str := ["self", "many", "known", "lap", "rounds", "rest"]
abbrev p37 : List PySem.Str := ["self", "many"]
/-! need_many -/
def b14 : ISs := (.cons (.cond (.not1 (.call 1 (.cons (.var 0) (.cons (.con (.int 0)) (.cons (.con (.int 1000000000)) .nil))))) (.cons .raise .nil) .nil) (.cons (.ret (.var 0)) .nil))
def d14 : FD := ⟨1, 1, b14⟩
abbrev s14 : PySem.Stmt := top 42
abbrev N14 : List PySem.Str := ["many"]
abbrev p14 : List PySem.Str := ["many"]
/-! need_powers -/
def b15 : ISs := (.cons (.expr (.call 4 (.cons (.call 3 (.cons (.var 0) .nil)) (.cons (.var 1) .nil)))) (.cons (.ret (.make 1 (.cons (.var 0) (.cons (.var 1) .nil)))) .nil))
def d15 : FD := ⟨2, 2, b15⟩
abbrev s15 : PySem.Stmt := top 43
abbrev N15 : List PySem.Str := ["cords", "figure"]
abbrev p15 : List PySem.Str := ["cords", "figure"]
/-! power_leftovers -/
def b38 : ISs := (.cons (.asg (.nm 3) (.call 15 (.cons (.var 0) (.cons (.var 1) .nil)))) (.cons (.ret (.meth (.var 3) 8 (.cons (.call 14 (.cons (.var 2) .nil)) .nil))) .nil))
def d38 : FD := ⟨3, 4, b38⟩
abbrev s38 : PySem.Stmt := top 44
abbrev N38 : List PySem.Str := ["cords", "figure", "many", "powers"]
abbrev p38 : List PySem.Str := ["cords", "figure", "many"]
/-! comes_round -/
def b17 : ISs := (.cons (.asg (.nm 2) (.call 15 (.cons (.var 0) (.cons (.var 1) .nil)))) (.cons (.ret (.tup (.cons (.fld (.var 2) 4) (.cons (.meth (.var 2) 5 .nil) .nil)))) .nil))
def d17 : FD := ⟨2, 3, b17⟩
abbrev s17 : PySem.Stmt := top 45
abbrev N17 : List PySem.Str := ["cords", "figure", "powers"]
abbrev p17 : List PySem.Str := ["cords", "figure"]
/-! does_stay -/
def b66 : ISs := (.cons (.expr (.call 4 (.cons (.call 3 (.cons (.var 0) .nil)) (.cons (.var 1) .nil)))) (.cons (.ret (.cmp .eq (.ix (.call 9 (.cons (.var 0) (.cons (.var 1) (.cons (.var 1) .nil)))) (.con (.int 0))) (.var 1))) .nil))
def d66 : FD := ⟨2, 2, b66⟩
abbrev s66 : PySem.Stmt := top 46
abbrev N66 : List PySem.Str := ["cords", "figure"]
abbrev p66 : List PySem.Str := ["cords", "figure"]
/-! ring_marks -/
def b39_0 : IO := .no
def b39_1 : IE := (.ite (.cmp .eq (.var 6) (.var 5)) (.var 4) (.var 6))
def b39_2 : ISs := (.cons (.asg (.tp [4, 5]) (.tup (.cons (.ix (.var 2) (.var 3)) (.cons (.ix (.var 2) (.bin .add (.var 0) (.var 3))) .nil)))) (.cons (.cond (.cmp .ne (.var 4) (.var 5)) (.cons (.asg (.nm 2) (.lc [6] (.nm 6) (.seq (.var 2)) b39_0 b39_1)) .nil) .nil) .nil))
def b39 : ISs := (.cons (.asg (.nm 2) (.bi .listOf (.cons (.var 1) .nil))) (.cons (.loop (.nm 3) (.range (.cons (.var 0) .nil)) b39_2) (.cons (.ret (.sl (.var 2) .no (.so (.var 0)))) .nil)))
def d39 : FD := ⟨2, 7, b39⟩
abbrev s39 : PySem.Stmt := top 48
abbrev N39 : List PySem.Str := ["cords", "figure", "marks", "place", "near", "far", "mark"]
abbrev p39 : List PySem.Str := ["cords", "figure"]
/-! rings_in -/
def b40 : ISs := (.cons (.ret (.lenset (.call 39 (.cons (.var 0) (.cons (.var 1) .nil))))) .nil)
def d40 : FD := ⟨2, 2, b40⟩
abbrev s40 : PySem.Stmt := top 49
abbrev N40 : List PySem.Str := ["cords", "figure"]
abbrev p40 : List PySem.Str := ["cords", "figure"]
/-! rings -/
def b67 : ISs := (.cons (.expr (.call 4 (.cons (.call 3 (.cons (.var 0) .nil)) (.cons (.var 1) .nil)))) (.cons (.ret (.call 40 (.cons (.var 0) (.cons (.var 1) .nil)))) .nil))
def d67 : FD := ⟨2, 2, b67⟩
abbrev s67 : PySem.Stmt := top 50
abbrev N67 : List PySem.Str := ["cords", "figure"]
abbrev p67 : List PySem.Str := ["cords", "figure"]
/-! power_rings -/
def b41 : ISs := (.cons (.expr (.call 4 (.cons (.call 3 (.cons (.var 0) .nil)) (.cons (.var 1) .nil)))) (.cons (.expr (.call 14 (.cons (.var 2) .nil))) (.cons (.asg (.nm 3) (.make 1 (.cons (.var 0) (.cons (.var 1) .nil)))) (.cons (.ret (.bin .add (.call 40 (.cons (.var 0) (.cons (.meth (.var 3) 7 (.cons (.var 2) .nil)) .nil))) (.meth (.var 3) 8 (.cons (.var 2) .nil)))) .nil))))
def d41 : FD := ⟨3, 4, b41⟩
abbrev s41 : PySem.Stmt := top 51
abbrev N41 : List PySem.Str := ["cords", "figure", "many", "powers"]
abbrev p41 : List PySem.Str := ["cords", "figure", "many"]
/-! _law_mixed -/
def b19 : ISs := (.cons (.asg (.nm 2) (.bin .add (.bin .add (.bin .mod (.bi .int1 (.cons (.bin .mul (.bin .mul (.var 0) (.bin .add (.con (.int 1)) (.bin .mul (.con (.int 2)) (.var 1)))) (.con (.int 48271))) .nil)) (.con (.int 2147483647))) (.bin .mul (.bin .mul (.con (.int 7919)) (.var 1)) (.var 1))) (.bin .mul (.con (.int 104729)) (.var 1)))) (.cons (.ret (.bin .fdiv (.bin .mod (.bi .int1 (.cons (.bin .mul (.var 2) (.con (.int 69621))) .nil)) (.con (.int 2147483629))) (.con (.int 7)))) .nil))
def d19 : FD := ⟨2, 3, b19⟩
abbrev s19 : PySem.Stmt := top 53
abbrev N19 : List PySem.Str := ["_law_cell", "_law_n", "_law_blend"]
abbrev p19 : List PySem.Str := ["_law_cell", "_law_n"]
/-! _law_folded -/
def b20_0 : IO := .no
def b20_1 : IE := (.bin .add (.con (.int 17)) (.var 2))
def b20_2 : ISs := (.cons (.setIx (.var 1) (.bin .mod (.bi .int1 (.cons (.var 2) .nil)) (.con (.int 64))) (.bin .mod (.bi .int1 (.cons (.bin .add (.bin .mul (.ix (.var 1) (.bin .mod (.bi .int1 (.cons (.var 2) .nil)) (.con (.int 64)))) (.con (.int 48271))) (.var 3)) .nil)) (.con (.int 2147483647)))) .nil)
def b20_3 : ISs := (.cons (.setIx (.var 1) (.var 2) (.bin .mod (.bi .int1 (.cons (.bin .add (.ix (.var 1) (.var 2)) (.bin .mul (.ix (.var 1) (.bin .sub (.var 2) (.con (.int 1)))) (.con (.int 16807)))) .nil)) (.con (.int 2147483647)))) .nil)
def b20 : ISs := (.cons (.asg (.nm 1) (.lc [2] (.nm 2) (.range (.cons (.con (.int 64)) .nil)) b20_0 b20_1)) (.cons (.loop (.tp [2, 3]) (.enum (.var 0)) b20_2) (.cons (.loop (.nm 2) (.range (.cons (.con (.int 1)) (.cons (.con (.int 64)) .nil))) b20_3) (.cons (.ret (.var 1)) .nil))))
def d20 : FD := ⟨1, 4, b20⟩
abbrev s20 : PySem.Stmt := top 54
abbrev N20 : List PySem.Str := ["_law_script", "_law_found", "_law_n", "_law_cell"]
abbrev p20 : List PySem.Str := ["_law_script"]
/-! _law_draw -/
def b21 : ISs := (.cons (.asg (.nm 2) (.ix (.var 0) (.con (.str "spot")))) (.cons (.setIx (.var 0) (.con (.str "spot")) (.bin .add (.var 2) (.con (.int 1)))) (.cons (.cond (.cmp .ne (.ix (.var 0) (.con (.str "great"))) (.lst .nil)) (.cons (.asg (.nm 3) (.ix (.var 0) (.con (.str "great")))) (.cons (.asg (.nm 4) (.bin .mod (.bi .int1 (.cons (.var 2) .nil)) (.bi .len (.cons (.var 3) .nil)))) (.cons (.asg (.nm 5) (.ix (.var 3) (.var 4))) (.cons (.cond (.cmp .gt (.var 5) (.con (.int 0))) (.cons (.setIx (.var 3) (.var 4) (.bin .fdiv (.var 5) (.var 1))) (.cons (.ret (.bin .mod (.bi .int1 (.cons (.var 5) .nil)) (.var 1))) .nil)) .nil) .nil)))) .nil) (.cons (.asg (.nm 3) (.ix (.var 0) (.con (.str "cells")))) (.cons (.ret (.bin .mod (.bi .int1 (.cons (.call 19 (.cons (.call 19 (.cons (.bin .add (.ix (.var 3) (.bin .mod (.bi .int1 (.cons (.var 2) .nil)) (.con (.int 64)))) (.bin .mul (.con (.int 31)) (.bin .fdiv (.var 2) (.con (.int 64))))) (.cons (.var 2) .nil))) (.cons (.bin .add (.var 2) (.con (.int 7))) .nil))) .nil)) (.var 1))) .nil)))))
def d21 : FD := ⟨2, 6, b21⟩
abbrev s21 : PySem.Stmt := top 55
abbrev N21 : List PySem.Str := ["_law_m", "_law_limit", "_law_n", "_law_lot", "_law_here", "_law_cell"]
abbrev p21 : List PySem.Str := ["_law_m", "_law_limit"]
/-! _law_begun -/
def b22_0 : IO := .no
def b22_1 : IE := (.ite (.cmp .ge (.var 2) (.bin .pow (.con (.int 10)) (.con (.int 18)))) (.var 2) (.con (.int 0)))
def b22 : ISs := (.cons (.asg (.nm 1) (.dct [.str "cells", .str "great", .str "spot"] (.cons (.call 20 (.cons (.var 0) .nil)) (.cons (.lst .nil) (.cons (.con (.int 0)) .nil))))) (.cons (.setIx (.var 1) (.con (.str "great")) (.lc [2] (.nm 2) (.seq (.var 0)) b22_0 b22_1)) (.cons (.ret (.var 1)) .nil)))
def d22 : FD := ⟨1, 3, b22⟩
abbrev s22 : PySem.Stmt := top 56
abbrev N22 : List PySem.Str := ["_law_script", "_law_m", "_law_cell"]
abbrev p22 : List PySem.Str := ["_law_script"]
/-! _law_like -/
def b24 : ISs := (.cons (.ret (.cmp .eq (.bi .repr (.cons (.var 0) .nil)) (.bi .repr (.cons (.var 1) .nil)))) .nil)
def d24 : FD := ⟨2, 2, b24⟩
abbrev s24 : PySem.Stmt := top 57
abbrev N24 : List PySem.Str := ["_law_got", "_law_due"]
abbrev p24 : List PySem.Str := ["_law_got", "_law_due"]
/-! _law_named -/
def b25_0 : ISs := (.cons (.cond (.cmp .notin (.var 1) (.var 2)) (.cons (.expr (.bm .append (.var 2) (.cons (.var 1) .nil))) .nil) .nil) (.cons (.expr (.bm .append (.var 3) (.cons (.bm .index (.var 2) (.cons (.var 1) .nil)) .nil))) .nil))
def b25 : ISs := (.cons (.asg (.tp [2, 3]) (.tup (.cons (.lst .nil) (.cons (.lst .nil) .nil)))) (.cons (.loop (.nm 1) (.seq (.var 0)) b25_0) (.cons (.ret (.bi .tupleOf (.cons (.var 3) .nil))) .nil)))
def d25 : FD := ⟨1, 4, b25⟩
abbrev s25 : PySem.Stmt := top 58
abbrev N25 : List PySem.Str := ["_law_marks", "_law_mark", "_law_seen", "_law_found"]
abbrev p25 : List PySem.Str := ["_law_marks"]
/-! _law_upon -/
def b28_0 : IO := .no
def b28_1 : IE := (.var 10)
def b28_2 : IO := .no
def b28_3 : IE := (.bin .add (.bin .mul (.con (.int 2)) (.var 0)) (.var 10))
def b28_4 : IO := .no
def b28_5 : IE := (.ite (.cmp .eq (.var 10) (.var 8)) (.var 9) (.var 10))
def b28_6 : ISs := (.cons (.asg (.tp [8, 9]) (.tup (.cons (.ix (.var 3) (.bin .add (.bin .mul (.con (.int 2)) (.var 0)) (.var 4))) (.cons (.ix (.var 3) (.bin .add (.var 0) (.var 4))) .nil)))) (.cons (.cond (.cmp .ne (.var 8) (.var 9)) (.cons (.asg (.nm 3) (.lc [10] (.nm 10) (.seq (.var 3)) b28_4 b28_5)) .nil) .nil) .nil))
def b28_7 : IO := (.so (.cmp .notin (.var 10) (.var 5)))
def b28_8 : IE := (.var 10)
def b28_9 : IO := (.so (.cmp .notin (.ix (.var 6) (.var 4)) (.sl (.var 6) .no (.so (.var 4)))))
def b28_10 : IE := (.ix (.var 6) (.var 4))
def b28 : ISs := (.cons (.asg (.nm 3) (.bin .add (.lc [10] (.nm 10) (.seq (.var 1)) b28_0 b28_1) (.lc [10] (.nm 10) (.seq (.var 2)) b28_2 b28_3))) (.cons (.loop (.nm 4) (.range (.cons (.var 0) .nil)) b28_6) (.cons (.asg (.nm 5) (.bin .add (.sl (.var 3) .no (.so (.var 0))) (.sl (.var 3) (.so (.bin .mul (.con (.int 3)) (.var 0))) .no))) (.cons (.asg (.nm 6) (.lc [10] (.nm 10) (.seq (.sl (.var 3) (.so (.var 0)) (.so (.bin .mul (.con (.int 2)) (.var 0))))) b28_7 b28_8)) (.cons (.asg (.nm 7) (.lc [4] (.nm 4) (.range (.cons (.bi .len (.cons (.var 6) .nil)) .nil)) b28_9 b28_10)) (.cons (.ret (.tup (.cons (.call 25 (.cons (.var 5) .nil)) (.cons (.bi .len (.cons (.var 7) .nil)) .nil)))) .nil))))))
def d28 : FD := ⟨3, 11, b28⟩
abbrev s28 : PySem.Stmt := top 59
abbrev N28 : List PySem.Str := ["_law_cords_so", "_law_near", "_law_far", "_law_marks", "_law_at", "_law_kept", "_law_lost", "_law_gone", "_law_old", "_law_new", "_law_one"]
abbrev p28 : List PySem.Str := ["_law_cords_so", "_law_near", "_law_far"]
/-! _law_some_figure -/
def b33_0 : IO := .no
def b33_1 : IE := (.call 21 (.cons (.var 0) (.cons (.bin .add (.con (.int 1)) (.bin .mul (.con (.int 2)) (.var 1))) .nil)))
def b33 : ISs := (.cons (.ret (.call 25 (.cons (.lc [2] (.nm 2) (.range (.cons (.bin .mul (.con (.int 2)) (.var 1)) .nil)) b33_0 b33_1) .nil))) .nil)
def d33 : FD := ⟨2, 3, b33⟩
abbrev s33 : PySem.Stmt := top 60
abbrev N33 : List PySem.Str := ["_law_m", "_law_cords_so", "_law_point"]
abbrev p33 : List PySem.Str := ["_law_m", "_law_cords_so"]
/-! _law_lots -/
def b68_0 : IO := .no
def b68_1 : IE := (.ite (.cmp .eq (.var 8) (.var 6)) (.var 7) (.var 8))
def b68_2 : ISs := (.cons (.cond (.and2 (.cmp .eq (.ix (.var 2) (.var 5)) (.ix (.var 2) (.var 4))) (.cmp .ne (.ix (.var 3) (.var 5)) (.ix (.var 3) (.var 4)))) (.cons (.asg (.tp [6, 7]) (.tup (.cons (.ix (.var 3) (.var 4)) (.cons (.ix (.var 3) (.var 5)) .nil)))) (.cons (.asg (.nm 3) (.lc [8] (.nm 8) (.seq (.var 3)) b68_0 b68_1)) .nil)) .nil) .nil)
def b68_3 : ISs := (.cons (.loop (.nm 5) (.range (.cons (.var 4) .nil)) b68_2) .nil)
def b68_4 : IO := (.so (.cmp .notin (.ix (.var 3) (.var 4)) (.sl (.var 3) .no (.so (.var 4)))))
def b68_5 : IE := (.var 4)
def b68 : ISs := (.cons (.asg (.nm 3) (.bi .listOf (.cons (.var 1) .nil))) (.cons (.loop (.nm 4) (.range (.cons (.var 0) .nil)) b68_3) (.cons (.ret (.bi .len (.cons (.lc [4] (.nm 4) (.range (.cons (.var 0) .nil)) b68_4 b68_5) .nil))) .nil)))
def d68 : FD := ⟨3, 9, b68⟩
abbrev s68 : PySem.Stmt := top 61
abbrev N68 : List PySem.Str := ["_law_cords_so", "_law_near", "_law_far", "_law_marks", "_law_at", "_law_one", "_law_old", "_law_new", "_law_mark"]
abbrev p68 : List PySem.Str := ["_law_cords_so", "_law_near", "_law_far"]
/-! _law_zero_right -/
def b69_0 : IO := .no
def b69_1 : IE := (.call 21 (.cons (.var 0) (.cons (.var 1) .nil)))
def b69_2 : IO := .no
def b69_3 : IE := (.call 21 (.cons (.var 0) (.cons (.var 1) .nil)))
def b69_4 : IO := .no
def b69_5 : IE := (.bin .add (.var 1) (.var 10))
def b69 : ISs := (.cons (.asg (.nm 2) (.call 25 (.cons (.lc [9] (.nm 9) (.range (.cons (.var 1) .nil)) b69_0 b69_1) .nil))) (.cons (.asg (.nm 3) (.call 25 (.cons (.lc [9] (.nm 9) (.range (.cons (.var 1) .nil)) b69_2 b69_3) .nil))) (.cons (.asg (.nm 4) (.call 63 (.cons (.var 1) (.cons (.tup (.cons (.var 2) (.cons (.tup .nil) .nil))) (.cons (.tup .nil) (.cons (.tup (.cons (.var 3) (.cons (.tup .nil) .nil))) .nil)))))) (.cons (.asg (.nm 5) (.call 25 (.cons (.bin .add (.bi .listOf (.cons (.var 2) .nil)) (.lc [10] (.nm 10) (.seq (.var 3)) b69_4 b69_5)) .nil))) (.cons (.asg (.nm 6) (.call 68 (.cons (.var 1) (.cons (.var 2) (.cons (.var 3) .nil))))) (.cons (.cond (.not1 (.call 24 (.cons (.lst (.cons (.var 4) (.cons (.call 50 (.cons (.var 1) (.cons (.var 5) .nil))) (.cons (.call 65 (.cons (.var 1) (.cons (.tup (.cons (.var 3) (.cons (.tup .nil) .nil))) (.cons (.tup (.cons (.var 2) (.cons (.tup .nil) .nil))) .nil)))) .nil)))) (.cons (.lst (.cons (.var 5) (.cons (.con (.int 0)) (.cons (.tup (.cons (.tup .nil) (.cons (.var 6) .nil))) .nil)))) .nil)))) (.cons (.ret (.con (.bl false))) .nil) .nil) (.cons (.asg (.nm 7) (.bin .add (.call 21 (.cons (.var 0) (.cons (.bin .pow (.con (.int 10)) (.con (.int 9))) .nil))) (.con (.int 1)))) (.cons (.asg (.nm 8) (.lst (.cons (.call 67 (.cons (.var 1) (.cons (.var 5) .nil))) (.cons (.call 51 (.cons (.var 1) (.cons (.var 5) (.cons (.var 5) .nil)))) (.cons (.call 66 (.cons (.var 1) (.cons (.var 5) .nil))) (.cons (.call 17 (.cons (.var 1) (.cons (.var 5) .nil))) .nil)))))) (.cons (.asg (.nm 8) (.bin .add (.var 8) (.lst (.cons (.call 38 (.cons (.var 1) (.cons (.var 5) (.cons (.var 7) .nil)))) (.cons (.call 41 (.cons (.var 1) (.cons (.var 5) (.cons (.var 7) .nil)))) .nil))))) (.cons (.ret (.call 24 (.cons (.var 8) (.cons (.lst (.cons (.var 6) (.cons (.var 6) (.cons (.con (.bl true)) (.cons (.tup (.cons (.con (.int 1)) (.cons (.con (.int 1)) .nil))) (.cons (.bin .mul (.bin .sub (.var 7) (.con (.int 1))) (.var 6)) (.cons (.bin .mul (.var 7) (.var 6)) .nil))))))) .nil)))) .nil))))))))))
def d69 : FD := ⟨2, 11, b69⟩
abbrev s69 : PySem.Stmt := top 62
abbrev N69 : List PySem.Str := ["_law_m", "_law_cords_so", "_law_near", "_law_far", "_law_figure_so", "_law_due", "_law_lots_here", "_law_many_so", "_law_told", "_law_place", "_law_mark"]
abbrev p69 : List PySem.Str := ["_law_m", "_law_cords_so"]
/-! law -/
def b70_0 : ISs := (.cons (.asg (.nm 3) (.bin .add (.con (.int 1)) (.call 21 (.cons (.var 1) (.cons (.con (.int 5)) .nil))))) (.cons (.cond (.not1 (.call 69 (.cons (.var 1) (.cons (.var 3) .nil)))) (.cons (.ret (.con (.bl false))) .nil) .nil) (.cons (.asg (.nm 4) (.call 33 (.cons (.var 1) (.cons (.var 3) .nil)))) (.cons (.asg (.nm 5) (.ix (.call 28 (.cons (.var 3) (.cons (.var 4) (.cons (.var 4) .nil)))) (.con (.int 1)))) (.cons (.asg (.tp [7, 8]) (.call 65 (.cons (.var 3) (.cons (.call 60 (.cons (.var 3) (.cons (.var 4) .nil))) (.cons (.call 59 (.cons (.var 3) (.cons (.var 4) .nil))) .nil))))) (.cons (.asg (.nm 6) (.lst (.cons (.var 8) (.cons (.call 51 (.cons (.var 3) (.cons (.var 4) (.cons (.var 4) .nil)))) (.cons (.call 38 (.cons (.var 3) (.cons (.var 4) (.cons (.con (.int 2)) .nil)))) .nil))))) (.cons (.cond (.or2 (.not1 (.call 24 (.cons (.var 6) (.cons (.lst (.cons (.var 5) (.cons (.var 5) (.cons (.var 5) .nil)))) .nil)))) (.not1 (.bi .isTuple (.cons (.var 7) .nil)))) (.cons (.ret (.con (.bl false))) .nil) .nil) (.cons (.cond (.not1 (.chain .le .le (.var 8) (.call 67 (.cons (.var 3) (.cons (.var 4) .nil))) (.bin .add (.var 8) (.bi .len (.cons (.var 7) .nil))))) (.cons (.ret (.con (.bl false))) .nil) .nil) .nil))))))))
def b70 : ISs := (.cons (.asg (.nm 1) (.call 22 (.cons (.var 0) .nil))) (.cons (.loop (.nm 2) (.range (.cons (.bin .add (.con (.int 1)) (.bi .min2 (.cons (.con (.int 4)) (.cons (.bi .len (.cons (.var 0) .nil)) .nil)))) .nil)) b70_0) (.cons (.ret (.con (.bl true))) .nil)))
def d70 : FD := ⟨1, 9, b70⟩
abbrev s70 : PySem.Stmt := top 63
abbrev N70 : List PySem.Str := ["_law_script", "_law_m", "_law_turn", "_law_cords_so", "_law_figure_so", "_law_left", "_law_told", "_law_chains", "_law_rings_so"]
abbrev p70 : List PySem.Str := ["_law_script"]
def nmL : List PySem.Str := ["own_cords", "own_figure", "own_powers", "own_lost", "own_first", "step", "spot", "power", "leftovers"]
def fns : List (Nat × FD) := [(0, d0), (1, d1), (2, d2), (3, d3), (4, d4), (5, d5), (6, d6), (7, d7), (8, d8), (9, d9), (47, d47), (48, d48), (49, d49), (50, d50), (51, d51), (52, d52), (53, d53), (54, d54), (55, d55), (56, d56), (57, d57), (58, d58), (59, d59), (60, d60), (61, d61), (62, d62), (63, d63), (64, d64), (65, d65), (10, d10), (11, d11), (12, d12), (13, d13), (37, d37), (14, d14), (15, d15), (38, d38), (17, d17), (66, d66), (39, d39), (40, d40), (67, d67), (41, d41), (19, d19), (20, d20), (21, d21), (22, d22), (24, d24), (25, d25), (28, d28), (33, d33), (68, d68), (69, d69), (70, d70)]
def mtF : Nat → Nat → Option Nat
  | 1, 5 => some 11
  | 1, 6 => some 12
  | 1, 7 => some 13
  | 1, 8 => some 37
  | _, _ => none
def iniF : Nat → Option Nat
  | 1 => some 10
  | _ => none
def foF : Nat → Nat → Bool
  | 1, 0 => true
  | 1, 1 => true
  | 1, 4 => true
  | 1, 3 => true
  | 1, 2 => true
  | _, _ => false
abbrev G : Gt := { fn := [(("is_number" : PySem.Str), 0), (("is_within" : PySem.Str), 1), (("is_tuple_of" : PySem.Str), 2), (("need_cords" : PySem.Str), 3), (("need_figure" : PySem.Str), 4), (("named_in" : PySem.Str), 5), (("straight_in" : PySem.Str), 6), (("first_of" : PySem.Str), 7), (("linked" : PySem.Str), 8), (("upon_in" : PySem.Str), 9), (("need_ground" : PySem.Str), 47), (("need_two" : PySem.Str), 48), (("rank_in" : PySem.Str), 49), (("rank_of" : PySem.Str), 50), (("left_over" : PySem.Str), 51), (("is_pieces" : PySem.Str), 52), (("is_open" : PySem.Str), 53), (("asked_half" : PySem.Str), 54), (("need_half" : PySem.Str), 55), (("half_in" : PySem.Str), 56), (("upper_in" : PySem.Str), 57), (("lower_in" : PySem.Str), 58), (("upper_half" : PySem.Str), 59), (("lower_half" : PySem.Str), 60), (("joined_halves" : PySem.Str), 61), (("is_meeting" : PySem.Str), 62), (("figure_of_halves" : PySem.Str), 63), (("open_in" : PySem.Str), 64), (("hung" : PySem.Str), 65), (("need_many" : PySem.Str), 14), (("need_powers" : PySem.Str), 15), (("power_leftovers" : PySem.Str), 38), (("comes_round" : PySem.Str), 17), (("does_stay" : PySem.Str), 66), (("ring_marks" : PySem.Str), 39), (("rings_in" : PySem.Str), 40), (("rings" : PySem.Str), 67), (("power_rings" : PySem.Str), 41), (("_law_mixed" : PySem.Str), 19), (("_law_folded" : PySem.Str), 20), (("_law_draw" : PySem.Str), 21), (("_law_begun" : PySem.Str), 22), (("_law_like" : PySem.Str), 24), (("_law_named" : PySem.Str), 25), (("_law_upon" : PySem.Str), 28), (("_law_some_figure" : PySem.Str), 33), (("_law_lots" : PySem.Str), 68), (("_law_zero_right" : PySem.Str), 69), (("law" : PySem.Str), 70)], cls := [(("Powers" : PySem.Str), 1)], gv := [(("MOST_CORDS" : PySem.Str), .int 5), (("MOST_TIMES" : PySem.Str), .int 1000000000)], kw := [], nm := nmOf nmL }
abbrev P (w : Nat) : Pg := { fn := fun i => fns.lookup i, mt := mtF, ini := iniF, fo := foF, w := w }
set_option maxRecDepth 100000
theorem ok0 : okSs G b0 ⟨N0, defScope s0, none⟩ (defBody s0) = true := by decide +kernel
theorem sc0 : FnScope N0 p0 (defScope s0) := ⟨rfl, rfl, rfl, by decide +kernel, rfl, by decide +kernel, by decide +kernel⟩
theorem ok1 : okSs G b1 ⟨N1, defScope s1, none⟩ (defBody s1) = true := by decide +kernel
theorem sc1 : FnScope N1 p1 (defScope s1) := ⟨rfl, rfl, rfl, by decide +kernel, rfl, by decide +kernel, by decide +kernel⟩
theorem ok2 : okSs G b2 ⟨N2, defScope s2, none⟩ (defBody s2) = true := by decide +kernel
theorem sc2 : FnScope N2 p2 (defScope s2) := ⟨rfl, rfl, rfl, by decide +kernel, rfl, by decide +kernel, by decide +kernel⟩
theorem ok3 : okSs G b3 ⟨N3, defScope s3, none⟩ (defBody s3) = true := by decide +kernel
theorem sc3 : FnScope N3 p3 (defScope s3) := ⟨rfl, rfl, rfl, by decide +kernel, rfl, by decide +kernel, by decide +kernel⟩
theorem ok4 : okSs G b4 ⟨N4, defScope s4, none⟩ (defBody s4) = true := by decide +kernel
theorem sc4 : FnScope N4 p4 (defScope s4) := ⟨rfl, rfl, rfl, by decide +kernel, rfl, by decide +kernel, by decide +kernel⟩
theorem ok5 : okSs G b5 ⟨N5, defScope s5, none⟩ (defBody s5) = true := by decide +kernel
theorem sc5 : FnScope N5 p5 (defScope s5) := ⟨rfl, rfl, rfl, by decide +kernel, rfl, by decide +kernel, by decide +kernel⟩
theorem ok6 : okSs G b6 ⟨N6, defScope s6, none⟩ (defBody s6) = true := by decide +kernel
theorem sc6 : FnScope N6 p6 (defScope s6) := ⟨rfl, rfl, rfl, by decide +kernel, rfl, by decide +kernel, by decide +kernel⟩
theorem ok7 : okSs G b7 ⟨N7, defScope s7, none⟩ (defBody s7) = true := by decide +kernel
theorem sc7 : FnScope N7 p7 (defScope s7) := ⟨rfl, rfl, rfl, by decide +kernel, rfl, by decide +kernel, by decide +kernel⟩
theorem ok8 : okSs G b8 ⟨N8, defScope s8, none⟩ (defBody s8) = true := by decide +kernel
theorem sc8 : FnScope N8 p8 (defScope s8) := ⟨rfl, rfl, rfl, by decide +kernel, rfl, by decide +kernel, by decide +kernel⟩
theorem ok9 : okSs G b9 ⟨N9, defScope s9, none⟩ (defBody s9) = true := by decide +kernel
theorem sc9 : FnScope N9 p9 (defScope s9) := ⟨rfl, rfl, rfl, by decide +kernel, rfl, by decide +kernel, by decide +kernel⟩
theorem ok47 : okSs G b47 ⟨N47, defScope s47, none⟩ (defBody s47) = true := by decide +kernel
theorem sc47 : FnScope N47 p47 (defScope s47) := ⟨rfl, rfl, rfl, by decide +kernel, rfl, by decide +kernel, by decide +kernel⟩
theorem ok48 : okSs G b48 ⟨N48, defScope s48, none⟩ (defBody s48) = true := by decide +kernel
theorem sc48 : FnScope N48 p48 (defScope s48) := ⟨rfl, rfl, rfl, by decide +kernel, rfl, by decide +kernel, by decide +kernel⟩
theorem ok49 : okSs G b49 ⟨N49, defScope s49, none⟩ (defBody s49) = true := by decide +kernel
theorem sc49 : FnScope N49 p49 (defScope s49) := ⟨rfl, rfl, rfl, by decide +kernel, rfl, by decide +kernel, by decide +kernel⟩
theorem ok50 : okSs G b50 ⟨N50, defScope s50, none⟩ (defBody s50) = true := by decide +kernel
theorem sc50 : FnScope N50 p50 (defScope s50) := ⟨rfl, rfl, rfl, by decide +kernel, rfl, by decide +kernel, by decide +kernel⟩
theorem ok51 : okSs G b51 ⟨N51, defScope s51, none⟩ (defBody s51) = true := by decide +kernel
theorem sc51 : FnScope N51 p51 (defScope s51) := ⟨rfl, rfl, rfl, by decide +kernel, rfl, by decide +kernel, by decide +kernel⟩
theorem ok52 : okSs G b52 ⟨N52, defScope s52, none⟩ (defBody s52) = true := by decide +kernel
theorem sc52 : FnScope N52 p52 (defScope s52) := ⟨rfl, rfl, rfl, by decide +kernel, rfl, by decide +kernel, by decide +kernel⟩
theorem ok53 : okSs G b53 ⟨N53, defScope s53, none⟩ (defBody s53) = true := by decide +kernel
theorem sc53 : FnScope N53 p53 (defScope s53) := ⟨rfl, rfl, rfl, by decide +kernel, rfl, by decide +kernel, by decide +kernel⟩
theorem ok54 : okSs G b54 ⟨N54, defScope s54, none⟩ (defBody s54) = true := by decide +kernel
theorem sc54 : FnScope N54 p54 (defScope s54) := ⟨rfl, rfl, rfl, by decide +kernel, rfl, by decide +kernel, by decide +kernel⟩
theorem ok55 : okSs G b55 ⟨N55, defScope s55, none⟩ (defBody s55) = true := by decide +kernel
theorem sc55 : FnScope N55 p55 (defScope s55) := ⟨rfl, rfl, rfl, by decide +kernel, rfl, by decide +kernel, by decide +kernel⟩
theorem ok56 : okSs G b56 ⟨N56, defScope s56, none⟩ (defBody s56) = true := by decide +kernel
theorem sc56 : FnScope N56 p56 (defScope s56) := ⟨rfl, rfl, rfl, by decide +kernel, rfl, by decide +kernel, by decide +kernel⟩
theorem ok57 : okSs G b57 ⟨N57, defScope s57, none⟩ (defBody s57) = true := by decide +kernel
theorem sc57 : FnScope N57 p57 (defScope s57) := ⟨rfl, rfl, rfl, by decide +kernel, rfl, by decide +kernel, by decide +kernel⟩
theorem ok58 : okSs G b58 ⟨N58, defScope s58, none⟩ (defBody s58) = true := by decide +kernel
theorem sc58 : FnScope N58 p58 (defScope s58) := ⟨rfl, rfl, rfl, by decide +kernel, rfl, by decide +kernel, by decide +kernel⟩
theorem ok59 : okSs G b59 ⟨N59, defScope s59, none⟩ (defBody s59) = true := by decide +kernel
theorem sc59 : FnScope N59 p59 (defScope s59) := ⟨rfl, rfl, rfl, by decide +kernel, rfl, by decide +kernel, by decide +kernel⟩
theorem ok60 : okSs G b60 ⟨N60, defScope s60, none⟩ (defBody s60) = true := by decide +kernel
theorem sc60 : FnScope N60 p60 (defScope s60) := ⟨rfl, rfl, rfl, by decide +kernel, rfl, by decide +kernel, by decide +kernel⟩
theorem ok61 : okSs G b61 ⟨N61, defScope s61, none⟩ (defBody s61) = true := by decide +kernel
theorem sc61 : FnScope N61 p61 (defScope s61) := ⟨rfl, rfl, rfl, by decide +kernel, rfl, by decide +kernel, by decide +kernel⟩
theorem ok62 : okSs G b62 ⟨N62, defScope s62, none⟩ (defBody s62) = true := by decide +kernel
theorem sc62 : FnScope N62 p62 (defScope s62) := ⟨rfl, rfl, rfl, by decide +kernel, rfl, by decide +kernel, by decide +kernel⟩
theorem ok63 : okSs G b63 ⟨N63, defScope s63, none⟩ (defBody s63) = true := by decide +kernel
theorem sc63 : FnScope N63 p63 (defScope s63) := ⟨rfl, rfl, rfl, by decide +kernel, rfl, by decide +kernel, by decide +kernel⟩
theorem ok64 : okSs G b64 ⟨N64, defScope s64, none⟩ (defBody s64) = true := by decide +kernel
theorem sc64 : FnScope N64 p64 (defScope s64) := ⟨rfl, rfl, rfl, by decide +kernel, rfl, by decide +kernel, by decide +kernel⟩
theorem ok65 : okSs G b65 ⟨N65, defScope s65, none⟩ (defBody s65) = true := by decide +kernel
theorem sc65 : FnScope N65 p65 (defScope s65) := ⟨rfl, rfl, rfl, by decide +kernel, rfl, by decide +kernel, by decide +kernel⟩
theorem ok10 : okSs G b10 ⟨N10, defScope s10, none⟩ (defBody s10) = true := by decide +kernel
theorem sc10 : FnScope N10 p10 (defScope s10) := ⟨rfl, rfl, rfl, by decide +kernel, rfl, by decide +kernel, by decide +kernel⟩
theorem ok11 : okSs G b11 ⟨N11, defScope s11, none⟩ (defBody s11) = true := by decide +kernel
theorem sc11 : FnScope N11 p11 (defScope s11) := ⟨rfl, rfl, rfl, by decide +kernel, rfl, by decide +kernel, by decide +kernel⟩
theorem ok12 : okSs G b12 ⟨N12, defScope s12, none⟩ (defBody s12) = true := by decide +kernel
theorem sc12 : FnScope N12 p12 (defScope s12) := ⟨rfl, rfl, rfl, by decide +kernel, rfl, by decide +kernel, by decide +kernel⟩
theorem ok13 : okSs G b13 ⟨N13, defScope s13, none⟩ (defBody s13) = true := by decide +kernel
theorem sc13 : FnScope N13 p13 (defScope s13) := ⟨rfl, rfl, rfl, by decide +kernel, rfl, by decide +kernel, by decide +kernel⟩
theorem ok37 : okSs G b37 ⟨N37, defScope s37, none⟩ (defBody s37) = true := by decide +kernel
theorem sc37 : FnScope N37 p37 (defScope s37) := ⟨rfl, rfl, rfl, by decide +kernel, rfl, by decide +kernel, by decide +kernel⟩
theorem ok14 : okSs G b14 ⟨N14, defScope s14, none⟩ (defBody s14) = true := by decide +kernel
theorem sc14 : FnScope N14 p14 (defScope s14) := ⟨rfl, rfl, rfl, by decide +kernel, rfl, by decide +kernel, by decide +kernel⟩
theorem ok15 : okSs G b15 ⟨N15, defScope s15, none⟩ (defBody s15) = true := by decide +kernel
theorem sc15 : FnScope N15 p15 (defScope s15) := ⟨rfl, rfl, rfl, by decide +kernel, rfl, by decide +kernel, by decide +kernel⟩
theorem ok38 : okSs G b38 ⟨N38, defScope s38, none⟩ (defBody s38) = true := by decide +kernel
theorem sc38 : FnScope N38 p38 (defScope s38) := ⟨rfl, rfl, rfl, by decide +kernel, rfl, by decide +kernel, by decide +kernel⟩
theorem ok17 : okSs G b17 ⟨N17, defScope s17, none⟩ (defBody s17) = true := by decide +kernel
theorem sc17 : FnScope N17 p17 (defScope s17) := ⟨rfl, rfl, rfl, by decide +kernel, rfl, by decide +kernel, by decide +kernel⟩
theorem ok66 : okSs G b66 ⟨N66, defScope s66, none⟩ (defBody s66) = true := by decide +kernel
theorem sc66 : FnScope N66 p66 (defScope s66) := ⟨rfl, rfl, rfl, by decide +kernel, rfl, by decide +kernel, by decide +kernel⟩
theorem ok39 : okSs G b39 ⟨N39, defScope s39, none⟩ (defBody s39) = true := by decide +kernel
theorem sc39 : FnScope N39 p39 (defScope s39) := ⟨rfl, rfl, rfl, by decide +kernel, rfl, by decide +kernel, by decide +kernel⟩
theorem ok40 : okSs G b40 ⟨N40, defScope s40, none⟩ (defBody s40) = true := by decide +kernel
theorem sc40 : FnScope N40 p40 (defScope s40) := ⟨rfl, rfl, rfl, by decide +kernel, rfl, by decide +kernel, by decide +kernel⟩
theorem ok67 : okSs G b67 ⟨N67, defScope s67, none⟩ (defBody s67) = true := by decide +kernel
theorem sc67 : FnScope N67 p67 (defScope s67) := ⟨rfl, rfl, rfl, by decide +kernel, rfl, by decide +kernel, by decide +kernel⟩
theorem ok41 : okSs G b41 ⟨N41, defScope s41, none⟩ (defBody s41) = true := by decide +kernel
theorem sc41 : FnScope N41 p41 (defScope s41) := ⟨rfl, rfl, rfl, by decide +kernel, rfl, by decide +kernel, by decide +kernel⟩
theorem ok19 : okSs G b19 ⟨N19, defScope s19, none⟩ (defBody s19) = true := by decide +kernel
theorem sc19 : FnScope N19 p19 (defScope s19) := ⟨rfl, rfl, rfl, by decide +kernel, rfl, by decide +kernel, by decide +kernel⟩
theorem ok20 : okSs G b20 ⟨N20, defScope s20, none⟩ (defBody s20) = true := by decide +kernel
theorem sc20 : FnScope N20 p20 (defScope s20) := ⟨rfl, rfl, rfl, by decide +kernel, rfl, by decide +kernel, by decide +kernel⟩
theorem ok21 : okSs G b21 ⟨N21, defScope s21, none⟩ (defBody s21) = true := by decide +kernel
theorem sc21 : FnScope N21 p21 (defScope s21) := ⟨rfl, rfl, rfl, by decide +kernel, rfl, by decide +kernel, by decide +kernel⟩
theorem ok22 : okSs G b22 ⟨N22, defScope s22, none⟩ (defBody s22) = true := by decide +kernel
theorem sc22 : FnScope N22 p22 (defScope s22) := ⟨rfl, rfl, rfl, by decide +kernel, rfl, by decide +kernel, by decide +kernel⟩
theorem ok24 : okSs G b24 ⟨N24, defScope s24, none⟩ (defBody s24) = true := by decide +kernel
theorem sc24 : FnScope N24 p24 (defScope s24) := ⟨rfl, rfl, rfl, by decide +kernel, rfl, by decide +kernel, by decide +kernel⟩
theorem ok25 : okSs G b25 ⟨N25, defScope s25, none⟩ (defBody s25) = true := by decide +kernel
theorem sc25 : FnScope N25 p25 (defScope s25) := ⟨rfl, rfl, rfl, by decide +kernel, rfl, by decide +kernel, by decide +kernel⟩
theorem ok28 : okSs G b28 ⟨N28, defScope s28, none⟩ (defBody s28) = true := by decide +kernel
theorem sc28 : FnScope N28 p28 (defScope s28) := ⟨rfl, rfl, rfl, by decide +kernel, rfl, by decide +kernel, by decide +kernel⟩
theorem ok33 : okSs G b33 ⟨N33, defScope s33, none⟩ (defBody s33) = true := by decide +kernel
theorem sc33 : FnScope N33 p33 (defScope s33) := ⟨rfl, rfl, rfl, by decide +kernel, rfl, by decide +kernel, by decide +kernel⟩
theorem ok68 : okSs G b68 ⟨N68, defScope s68, none⟩ (defBody s68) = true := by decide +kernel
theorem sc68 : FnScope N68 p68 (defScope s68) := ⟨rfl, rfl, rfl, by decide +kernel, rfl, by decide +kernel, by decide +kernel⟩
theorem ok69 : okSs G b69 ⟨N69, defScope s69, none⟩ (defBody s69) = true := by decide +kernel
theorem sc69 : FnScope N69 p69 (defScope s69) := ⟨rfl, rfl, rfl, by decide +kernel, rfl, by decide +kernel, by decide +kernel⟩
theorem ok70 : okSs G b70 ⟨N70, defScope s70, none⟩ (defBody s70) = true := by decide +kernel
theorem sc70 : FnScope N70 p70 (defScope s70) := ⟨rfl, rfl, rfl, by decide +kernel, rfl, by decide +kernel, by decide +kernel⟩
set_option maxHeartbeats 0 in
theorem law_t {w : PySem.World} {K : PySem.W.Frag} {h : PySem.Heap} {mg : PySem.Str → Option PySem.Value} {fa f0 f1 f2 f3 f4 f5 f6 f7 f8 f9 f47 f48 f49 f50 f51 f52 f53 f54 f55 f56 f57 f58 f59 f60 f61 f62 f63 f64 f65 f10 f11 f12 f13 f37 f14 f15 f38 f17 f66 f39 f40 f67 f41 f19 f20 f21 f22 f24 f25 f28 f33 f68 f69 f70 C1 : PySem.Addr} {oc0 kV0 dc0 pm0 cd0 ct0 oc1 kV1 dc1 pm1 cd1 ct1 oc2 kV2 dc2 pm2 cd2 ct2 oc3 kV3 dc3 pm3 cd3 ct3 oc4 kV4 dc4 pm4 cd4 ct4 oc5 kV5 dc5 pm5 cd5 ct5 oc6 kV6 dc6 pm6 cd6 ct6 oc7 kV7 dc7 pm7 cd7 ct7 oc8 kV8 dc8 pm8 cd8 ct8 oc9 kV9 dc9 pm9 cd9 ct9 oc47 kV47 dc47 pm47 cd47 ct47 oc48 kV48 dc48 pm48 cd48 ct48 oc49 kV49 dc49 pm49 cd49 ct49 oc50 kV50 dc50 pm50 cd50 ct50 oc51 kV51 dc51 pm51 cd51 ct51 oc52 kV52 dc52 pm52 cd52 ct52 oc53 kV53 dc53 pm53 cd53 ct53 oc54 kV54 dc54 pm54 cd54 ct54 oc55 kV55 dc55 pm55 cd55 ct55 oc56 kV56 dc56 pm56 cd56 ct56 oc57 kV57 dc57 pm57 cd57 ct57 oc58 kV58 dc58 pm58 cd58 ct58 oc59 kV59 dc59 pm59 cd59 ct59 oc60 kV60 dc60 pm60 cd60 ct60 oc61 kV61 dc61 pm61 cd61 ct61 oc62 kV62 dc62 pm62 cd62 ct62 oc63 kV63 dc63 pm63 cd63 ct63 oc64 kV64 dc64 pm64 cd64 ct64 oc65 kV65 dc65 pm65 cd65 ct65 oc10 kV10 dc10 pm10 cd10 ct10 oc11 kV11 dc11 pm11 cd11 ct11 oc12 kV12 dc12 pm12 cd12 ct12 oc13 kV13 dc13 pm13 cd13 ct13 oc37 kV37 dc37 pm37 cd37 ct37 oc14 kV14 dc14 pm14 cd14 ct14 oc15 kV15 dc15 pm15 cd15 ct15 oc38 kV38 dc38 pm38 cd38 ct38 oc17 kV17 dc17 pm17 cd17 ct17 oc66 kV66 dc66 pm66 cd66 ct66 oc39 kV39 dc39 pm39 cd39 ct39 oc40 kV40 dc40 pm40 cd40 ct40 oc67 kV67 dc67 pm67 cd67 ct67 oc41 kV41 dc41 pm41 cd41 ct41 oc19 kV19 dc19 pm19 cd19 ct19 oc20 kV20 dc20 pm20 cd20 ct20 oc21 kV21 dc21 pm21 cd21 ct21 oc22 kV22 dc22 pm22 cd22 ct22 oc24 kV24 dc24 pm24 cd24 ct24 oc25 kV25 dc25 pm25 cd25 ct25 oc28 kV28 dc28 pm28 cd28 ct28 oc33 kV33 dc33 pm33 cd33 ct33 oc68 kV68 dc68 pm68 cd68 ct68 oc69 kV69 dc69 pm69 cd69 ct69 oc70 kV70 dc70 pm70 cd70 ct70 : PySem.Value} {od0 an0 od1 an1 od2 an2 od3 an3 od4 an4 od5 an5 od6 an6 od7 an7 od8 an8 od9 an9 od47 an47 od48 an48 od49 an49 od50 an50 od51 an51 od52 an52 od53 an53 od54 an54 od55 an55 od56 an56 od57 an57 od58 an58 od59 an59 od60 an60 od61 an61 od62 an62 od63 an63 od64 an64 od65 an65 od10 an10 od11 an11 od12 an12 od13 an13 od37 an37 od14 an14 od15 an15 od38 an38 od17 an17 od66 an66 od39 an39 od40 an40 od67 an67 od41 an41 od19 an19 od20 an20 od21 an21 od22 an22 od24 an24 od25 an25 od28 an28 od33 an33 od68 an68 od69 an69 od70 an70 : Option PySem.Addr} {sl0 sl1 sl2 sl3 sl4 sl5 sl6 sl7 sl8 sl9 sl47 sl48 sl49 sl50 sl51 sl52 sl53 sl54 sl55 sl56 sl57 sl58 sl59 sl60 sl61 sl62 sl63 sl64 sl65 sl10 sl11 sl12 sl13 sl37 sl14 sl15 sl38 sl17 sl66 sl39 sl40 sl67 sl41 sl19 sl20 sl21 sl22 sl24 sl25 sl28 sl33 sl68 sl69 sl70 : Array (Option PySem.Value)} {t0 t1 : PySem.Tok}
    (X : K.In h) (Gn : h.Ns PySem.mainGlobals mg) (hfa : mg "law" = some (.ref fa))
    (aC1 : PySem.W.nsIn K mainGlobals "Powers" = some (some (.ref C1)))
    (a0 : PySem.W.nsIn K mainGlobals "is_number" = some (some (.ref f0)))
    (l0 : K.lookup f0 = some ⟨oc0, od0, .func (PySem.W.fnOf "is_number" "is_number" (defArgs s0) (defBody s0) (defScope s0) .none kV0 dc0 pm0 an0 cd0 ct0), sl0⟩)
    (c0 : PySem.W.codeIn K cd0 "is_number" = true)
    (k0 : PySem.W.keepIn K (.ref f0) = true)
    (a1 : PySem.W.nsIn K mainGlobals "is_within" = some (some (.ref f1)))
    (l1 : K.lookup f1 = some ⟨oc1, od1, .func (PySem.W.fnOf "is_within" "is_within" (defArgs s1) (defBody s1) (defScope s1) .none kV1 dc1 pm1 an1 cd1 ct1), sl1⟩)
    (c1 : PySem.W.codeIn K cd1 "is_within" = true)
    (k1 : PySem.W.keepIn K (.ref f1) = true)
    (a2 : PySem.W.nsIn K mainGlobals "is_tuple_of" = some (some (.ref f2)))
    (l2 : K.lookup f2 = some ⟨oc2, od2, .func (PySem.W.fnOf "is_tuple_of" "is_tuple_of" (defArgs s2) (defBody s2) (defScope s2) .none kV2 dc2 pm2 an2 cd2 ct2), sl2⟩)
    (c2 : PySem.W.codeIn K cd2 "is_tuple_of" = true)
    (k2 : PySem.W.keepIn K (.ref f2) = true)
    (a3 : PySem.W.nsIn K mainGlobals "need_cords" = some (some (.ref f3)))
    (l3 : K.lookup f3 = some ⟨oc3, od3, .func (PySem.W.fnOf "need_cords" "need_cords" (defArgs s3) (defBody s3) (defScope s3) .none kV3 dc3 pm3 an3 cd3 ct3), sl3⟩)
    (c3 : PySem.W.codeIn K cd3 "need_cords" = true)
    (k3 : PySem.W.keepIn K (.ref f3) = true)
    (a4 : PySem.W.nsIn K mainGlobals "need_figure" = some (some (.ref f4)))
    (l4 : K.lookup f4 = some ⟨oc4, od4, .func (PySem.W.fnOf "need_figure" "need_figure" (defArgs s4) (defBody s4) (defScope s4) .none kV4 dc4 pm4 an4 cd4 ct4), sl4⟩)
    (c4 : PySem.W.codeIn K cd4 "need_figure" = true)
    (k4 : PySem.W.keepIn K (.ref f4) = true)
    (a5 : PySem.W.nsIn K mainGlobals "named_in" = some (some (.ref f5)))
    (l5 : K.lookup f5 = some ⟨oc5, od5, .func (PySem.W.fnOf "named_in" "named_in" (defArgs s5) (defBody s5) (defScope s5) .none kV5 dc5 pm5 an5 cd5 ct5), sl5⟩)
    (c5 : PySem.W.codeIn K cd5 "named_in" = true)
    (k5 : PySem.W.keepIn K (.ref f5) = true)
    (a6 : PySem.W.nsIn K mainGlobals "straight_in" = some (some (.ref f6)))
    (l6 : K.lookup f6 = some ⟨oc6, od6, .func (PySem.W.fnOf "straight_in" "straight_in" (defArgs s6) (defBody s6) (defScope s6) .none kV6 dc6 pm6 an6 cd6 ct6), sl6⟩)
    (c6 : PySem.W.codeIn K cd6 "straight_in" = true)
    (k6 : PySem.W.keepIn K (.ref f6) = true)
    (a7 : PySem.W.nsIn K mainGlobals "first_of" = some (some (.ref f7)))
    (l7 : K.lookup f7 = some ⟨oc7, od7, .func (PySem.W.fnOf "first_of" "first_of" (defArgs s7) (defBody s7) (defScope s7) .none kV7 dc7 pm7 an7 cd7 ct7), sl7⟩)
    (c7 : PySem.W.codeIn K cd7 "first_of" = true)
    (k7 : PySem.W.keepIn K (.ref f7) = true)
    (a8 : PySem.W.nsIn K mainGlobals "linked" = some (some (.ref f8)))
    (l8 : K.lookup f8 = some ⟨oc8, od8, .func (PySem.W.fnOf "linked" "linked" (defArgs s8) (defBody s8) (defScope s8) .none kV8 dc8 pm8 an8 cd8 ct8), sl8⟩)
    (c8 : PySem.W.codeIn K cd8 "linked" = true)
    (k8 : PySem.W.keepIn K (.ref f8) = true)
    (a9 : PySem.W.nsIn K mainGlobals "upon_in" = some (some (.ref f9)))
    (l9 : K.lookup f9 = some ⟨oc9, od9, .func (PySem.W.fnOf "upon_in" "upon_in" (defArgs s9) (defBody s9) (defScope s9) .none kV9 dc9 pm9 an9 cd9 ct9), sl9⟩)
    (c9 : PySem.W.codeIn K cd9 "upon_in" = true)
    (k9 : PySem.W.keepIn K (.ref f9) = true)
    (a47 : PySem.W.nsIn K mainGlobals "need_ground" = some (some (.ref f47)))
    (l47 : K.lookup f47 = some ⟨oc47, od47, .func (PySem.W.fnOf "need_ground" "need_ground" (defArgs s47) (defBody s47) (defScope s47) .none kV47 dc47 pm47 an47 cd47 ct47), sl47⟩)
    (c47 : PySem.W.codeIn K cd47 "need_ground" = true)
    (k47 : PySem.W.keepIn K (.ref f47) = true)
    (a48 : PySem.W.nsIn K mainGlobals "need_two" = some (some (.ref f48)))
    (l48 : K.lookup f48 = some ⟨oc48, od48, .func (PySem.W.fnOf "need_two" "need_two" (defArgs s48) (defBody s48) (defScope s48) .none kV48 dc48 pm48 an48 cd48 ct48), sl48⟩)
    (c48 : PySem.W.codeIn K cd48 "need_two" = true)
    (k48 : PySem.W.keepIn K (.ref f48) = true)
    (a49 : PySem.W.nsIn K mainGlobals "rank_in" = some (some (.ref f49)))
    (l49 : K.lookup f49 = some ⟨oc49, od49, .func (PySem.W.fnOf "rank_in" "rank_in" (defArgs s49) (defBody s49) (defScope s49) .none kV49 dc49 pm49 an49 cd49 ct49), sl49⟩)
    (c49 : PySem.W.codeIn K cd49 "rank_in" = true)
    (k49 : PySem.W.keepIn K (.ref f49) = true)
    (a50 : PySem.W.nsIn K mainGlobals "rank_of" = some (some (.ref f50)))
    (l50 : K.lookup f50 = some ⟨oc50, od50, .func (PySem.W.fnOf "rank_of" "rank_of" (defArgs s50) (defBody s50) (defScope s50) .none kV50 dc50 pm50 an50 cd50 ct50), sl50⟩)
    (c50 : PySem.W.codeIn K cd50 "rank_of" = true)
    (k50 : PySem.W.keepIn K (.ref f50) = true)
    (a51 : PySem.W.nsIn K mainGlobals "left_over" = some (some (.ref f51)))
    (l51 : K.lookup f51 = some ⟨oc51, od51, .func (PySem.W.fnOf "left_over" "left_over" (defArgs s51) (defBody s51) (defScope s51) .none kV51 dc51 pm51 an51 cd51 ct51), sl51⟩)
    (c51 : PySem.W.codeIn K cd51 "left_over" = true)
    (k51 : PySem.W.keepIn K (.ref f51) = true)
    (a52 : PySem.W.nsIn K mainGlobals "is_pieces" = some (some (.ref f52)))
    (l52 : K.lookup f52 = some ⟨oc52, od52, .func (PySem.W.fnOf "is_pieces" "is_pieces" (defArgs s52) (defBody s52) (defScope s52) .none kV52 dc52 pm52 an52 cd52 ct52), sl52⟩)
    (c52 : PySem.W.codeIn K cd52 "is_pieces" = true)
    (k52 : PySem.W.keepIn K (.ref f52) = true)
    (a53 : PySem.W.nsIn K mainGlobals "is_open" = some (some (.ref f53)))
    (l53 : K.lookup f53 = some ⟨oc53, od53, .func (PySem.W.fnOf "is_open" "is_open" (defArgs s53) (defBody s53) (defScope s53) .none kV53 dc53 pm53 an53 cd53 ct53), sl53⟩)
    (c53 : PySem.W.codeIn K cd53 "is_open" = true)
    (k53 : PySem.W.keepIn K (.ref f53) = true)
    (a54 : PySem.W.nsIn K mainGlobals "asked_half" = some (some (.ref f54)))
    (l54 : K.lookup f54 = some ⟨oc54, od54, .func (PySem.W.fnOf "asked_half" "asked_half" (defArgs s54) (defBody s54) (defScope s54) .none kV54 dc54 pm54 an54 cd54 ct54), sl54⟩)
    (c54 : PySem.W.codeIn K cd54 "asked_half" = true)
    (k54 : PySem.W.keepIn K (.ref f54) = true)
    (a55 : PySem.W.nsIn K mainGlobals "need_half" = some (some (.ref f55)))
    (l55 : K.lookup f55 = some ⟨oc55, od55, .func (PySem.W.fnOf "need_half" "need_half" (defArgs s55) (defBody s55) (defScope s55) .none kV55 dc55 pm55 an55 cd55 ct55), sl55⟩)
    (c55 : PySem.W.codeIn K cd55 "need_half" = true)
    (k55 : PySem.W.keepIn K (.ref f55) = true)
    (a56 : PySem.W.nsIn K mainGlobals "half_in" = some (some (.ref f56)))
    (l56 : K.lookup f56 = some ⟨oc56, od56, .func (PySem.W.fnOf "half_in" "half_in" (defArgs s56) (defBody s56) (defScope s56) .none kV56 dc56 pm56 an56 cd56 ct56), sl56⟩)
    (c56 : PySem.W.codeIn K cd56 "half_in" = true)
    (k56 : PySem.W.keepIn K (.ref f56) = true)
    (a57 : PySem.W.nsIn K mainGlobals "upper_in" = some (some (.ref f57)))
    (l57 : K.lookup f57 = some ⟨oc57, od57, .func (PySem.W.fnOf "upper_in" "upper_in" (defArgs s57) (defBody s57) (defScope s57) .none kV57 dc57 pm57 an57 cd57 ct57), sl57⟩)
    (c57 : PySem.W.codeIn K cd57 "upper_in" = true)
    (k57 : PySem.W.keepIn K (.ref f57) = true)
    (a58 : PySem.W.nsIn K mainGlobals "lower_in" = some (some (.ref f58)))
    (l58 : K.lookup f58 = some ⟨oc58, od58, .func (PySem.W.fnOf "lower_in" "lower_in" (defArgs s58) (defBody s58) (defScope s58) .none kV58 dc58 pm58 an58 cd58 ct58), sl58⟩)
    (c58 : PySem.W.codeIn K cd58 "lower_in" = true)
    (k58 : PySem.W.keepIn K (.ref f58) = true)
    (a59 : PySem.W.nsIn K mainGlobals "upper_half" = some (some (.ref f59)))
    (l59 : K.lookup f59 = some ⟨oc59, od59, .func (PySem.W.fnOf "upper_half" "upper_half" (defArgs s59) (defBody s59) (defScope s59) .none kV59 dc59 pm59 an59 cd59 ct59), sl59⟩)
    (c59 : PySem.W.codeIn K cd59 "upper_half" = true)
    (k59 : PySem.W.keepIn K (.ref f59) = true)
    (a60 : PySem.W.nsIn K mainGlobals "lower_half" = some (some (.ref f60)))
    (l60 : K.lookup f60 = some ⟨oc60, od60, .func (PySem.W.fnOf "lower_half" "lower_half" (defArgs s60) (defBody s60) (defScope s60) .none kV60 dc60 pm60 an60 cd60 ct60), sl60⟩)
    (c60 : PySem.W.codeIn K cd60 "lower_half" = true)
    (k60 : PySem.W.keepIn K (.ref f60) = true)
    (a61 : PySem.W.nsIn K mainGlobals "joined_halves" = some (some (.ref f61)))
    (l61 : K.lookup f61 = some ⟨oc61, od61, .func (PySem.W.fnOf "joined_halves" "joined_halves" (defArgs s61) (defBody s61) (defScope s61) .none kV61 dc61 pm61 an61 cd61 ct61), sl61⟩)
    (c61 : PySem.W.codeIn K cd61 "joined_halves" = true)
    (k61 : PySem.W.keepIn K (.ref f61) = true)
    (a62 : PySem.W.nsIn K mainGlobals "is_meeting" = some (some (.ref f62)))
    (l62 : K.lookup f62 = some ⟨oc62, od62, .func (PySem.W.fnOf "is_meeting" "is_meeting" (defArgs s62) (defBody s62) (defScope s62) .none kV62 dc62 pm62 an62 cd62 ct62), sl62⟩)
    (c62 : PySem.W.codeIn K cd62 "is_meeting" = true)
    (k62 : PySem.W.keepIn K (.ref f62) = true)
    (a63 : PySem.W.nsIn K mainGlobals "figure_of_halves" = some (some (.ref f63)))
    (l63 : K.lookup f63 = some ⟨oc63, od63, .func (PySem.W.fnOf "figure_of_halves" "figure_of_halves" (defArgs s63) (defBody s63) (defScope s63) .none kV63 dc63 pm63 an63 cd63 ct63), sl63⟩)
    (c63 : PySem.W.codeIn K cd63 "figure_of_halves" = true)
    (k63 : PySem.W.keepIn K (.ref f63) = true)
    (a64 : PySem.W.nsIn K mainGlobals "open_in" = some (some (.ref f64)))
    (l64 : K.lookup f64 = some ⟨oc64, od64, .func (PySem.W.fnOf "open_in" "open_in" (defArgs s64) (defBody s64) (defScope s64) .none kV64 dc64 pm64 an64 cd64 ct64), sl64⟩)
    (c64 : PySem.W.codeIn K cd64 "open_in" = true)
    (k64 : PySem.W.keepIn K (.ref f64) = true)
    (a65 : PySem.W.nsIn K mainGlobals "hung" = some (some (.ref f65)))
    (l65 : K.lookup f65 = some ⟨oc65, od65, .func (PySem.W.fnOf "hung" "hung" (defArgs s65) (defBody s65) (defScope s65) .none kV65 dc65 pm65 an65 cd65 ct65), sl65⟩)
    (c65 : PySem.W.codeIn K cd65 "hung" = true)
    (k65 : PySem.W.keepIn K (.ref f65) = true)
    (a10 : PySem.W.findIn K (.ref C1) "__init__" = some (some (.ref f10)))
    (i10 : PySem.W.isFn K (.ref f10) = true)
    (l10 : K.lookup f10 = some ⟨oc10, od10, .func (PySem.W.fnOf "__init__" "Powers.__init__" (defArgs s10) (defBody s10) (defScope s10) .none kV10 dc10 pm10 an10 cd10 ct10), sl10⟩)
    (c10 : PySem.W.codeIn K cd10 "Powers.__init__" = true)
    (k10 : PySem.W.keepIn K (.ref f10) = true)
    (a11 : PySem.W.findIn K (.ref C1) "step" = some (some (.ref f11)))
    (i11 : PySem.W.isFn K (.ref f11) = true)
    (l11 : K.lookup f11 = some ⟨oc11, od11, .func (PySem.W.fnOf "step" "Powers.step" (defArgs s11) (defBody s11) (defScope s11) .none kV11 dc11 pm11 an11 cd11 ct11), sl11⟩)
    (c11 : PySem.W.codeIn K cd11 "Powers.step" = true)
    (k11 : PySem.W.keepIn K (.ref f11) = true)
    (a12 : PySem.W.findIn K (.ref C1) "spot" = some (some (.ref f12)))
    (i12 : PySem.W.isFn K (.ref f12) = true)
    (l12 : K.lookup f12 = some ⟨oc12, od12, .func (PySem.W.fnOf "spot" "Powers.spot" (defArgs s12) (defBody s12) (defScope s12) .none kV12 dc12 pm12 an12 cd12 ct12), sl12⟩)
    (c12 : PySem.W.codeIn K cd12 "Powers.spot" = true)
    (k12 : PySem.W.keepIn K (.ref f12) = true)
    (a13 : PySem.W.findIn K (.ref C1) "power" = some (some (.ref f13)))
    (i13 : PySem.W.isFn K (.ref f13) = true)
    (l13 : K.lookup f13 = some ⟨oc13, od13, .func (PySem.W.fnOf "power" "Powers.power" (defArgs s13) (defBody s13) (defScope s13) .none kV13 dc13 pm13 an13 cd13 ct13), sl13⟩)
    (c13 : PySem.W.codeIn K cd13 "Powers.power" = true)
    (k13 : PySem.W.keepIn K (.ref f13) = true)
    (a37 : PySem.W.findIn K (.ref C1) "leftovers" = some (some (.ref f37)))
    (i37 : PySem.W.isFn K (.ref f37) = true)
    (l37 : K.lookup f37 = some ⟨oc37, od37, .func (PySem.W.fnOf "leftovers" "Powers.leftovers" (defArgs s37) (defBody s37) (defScope s37) .none kV37 dc37 pm37 an37 cd37 ct37), sl37⟩)
    (c37 : PySem.W.codeIn K cd37 "Powers.leftovers" = true)
    (k37 : PySem.W.keepIn K (.ref f37) = true)
    (a14 : PySem.W.nsIn K mainGlobals "need_many" = some (some (.ref f14)))
    (l14 : K.lookup f14 = some ⟨oc14, od14, .func (PySem.W.fnOf "need_many" "need_many" (defArgs s14) (defBody s14) (defScope s14) .none kV14 dc14 pm14 an14 cd14 ct14), sl14⟩)
    (c14 : PySem.W.codeIn K cd14 "need_many" = true)
    (k14 : PySem.W.keepIn K (.ref f14) = true)
    (a15 : PySem.W.nsIn K mainGlobals "need_powers" = some (some (.ref f15)))
    (l15 : K.lookup f15 = some ⟨oc15, od15, .func (PySem.W.fnOf "need_powers" "need_powers" (defArgs s15) (defBody s15) (defScope s15) .none kV15 dc15 pm15 an15 cd15 ct15), sl15⟩)
    (c15 : PySem.W.codeIn K cd15 "need_powers" = true)
    (k15 : PySem.W.keepIn K (.ref f15) = true)
    (a38 : PySem.W.nsIn K mainGlobals "power_leftovers" = some (some (.ref f38)))
    (l38 : K.lookup f38 = some ⟨oc38, od38, .func (PySem.W.fnOf "power_leftovers" "power_leftovers" (defArgs s38) (defBody s38) (defScope s38) .none kV38 dc38 pm38 an38 cd38 ct38), sl38⟩)
    (c38 : PySem.W.codeIn K cd38 "power_leftovers" = true)
    (k38 : PySem.W.keepIn K (.ref f38) = true)
    (a17 : PySem.W.nsIn K mainGlobals "comes_round" = some (some (.ref f17)))
    (l17 : K.lookup f17 = some ⟨oc17, od17, .func (PySem.W.fnOf "comes_round" "comes_round" (defArgs s17) (defBody s17) (defScope s17) .none kV17 dc17 pm17 an17 cd17 ct17), sl17⟩)
    (c17 : PySem.W.codeIn K cd17 "comes_round" = true)
    (k17 : PySem.W.keepIn K (.ref f17) = true)
    (a66 : PySem.W.nsIn K mainGlobals "does_stay" = some (some (.ref f66)))
    (l66 : K.lookup f66 = some ⟨oc66, od66, .func (PySem.W.fnOf "does_stay" "does_stay" (defArgs s66) (defBody s66) (defScope s66) .none kV66 dc66 pm66 an66 cd66 ct66), sl66⟩)
    (c66 : PySem.W.codeIn K cd66 "does_stay" = true)
    (k66 : PySem.W.keepIn K (.ref f66) = true)
    (a39 : PySem.W.nsIn K mainGlobals "ring_marks" = some (some (.ref f39)))
    (l39 : K.lookup f39 = some ⟨oc39, od39, .func (PySem.W.fnOf "ring_marks" "ring_marks" (defArgs s39) (defBody s39) (defScope s39) .none kV39 dc39 pm39 an39 cd39 ct39), sl39⟩)
    (c39 : PySem.W.codeIn K cd39 "ring_marks" = true)
    (k39 : PySem.W.keepIn K (.ref f39) = true)
    (a40 : PySem.W.nsIn K mainGlobals "rings_in" = some (some (.ref f40)))
    (l40 : K.lookup f40 = some ⟨oc40, od40, .func (PySem.W.fnOf "rings_in" "rings_in" (defArgs s40) (defBody s40) (defScope s40) .none kV40 dc40 pm40 an40 cd40 ct40), sl40⟩)
    (c40 : PySem.W.codeIn K cd40 "rings_in" = true)
    (k40 : PySem.W.keepIn K (.ref f40) = true)
    (a67 : PySem.W.nsIn K mainGlobals "rings" = some (some (.ref f67)))
    (l67 : K.lookup f67 = some ⟨oc67, od67, .func (PySem.W.fnOf "rings" "rings" (defArgs s67) (defBody s67) (defScope s67) .none kV67 dc67 pm67 an67 cd67 ct67), sl67⟩)
    (c67 : PySem.W.codeIn K cd67 "rings" = true)
    (k67 : PySem.W.keepIn K (.ref f67) = true)
    (a41 : PySem.W.nsIn K mainGlobals "power_rings" = some (some (.ref f41)))
    (l41 : K.lookup f41 = some ⟨oc41, od41, .func (PySem.W.fnOf "power_rings" "power_rings" (defArgs s41) (defBody s41) (defScope s41) .none kV41 dc41 pm41 an41 cd41 ct41), sl41⟩)
    (c41 : PySem.W.codeIn K cd41 "power_rings" = true)
    (k41 : PySem.W.keepIn K (.ref f41) = true)
    (a19 : PySem.W.nsIn K mainGlobals "_law_mixed" = some (some (.ref f19)))
    (l19 : K.lookup f19 = some ⟨oc19, od19, .func (PySem.W.fnOf "_law_mixed" "_law_mixed" (defArgs s19) (defBody s19) (defScope s19) .none kV19 dc19 pm19 an19 cd19 ct19), sl19⟩)
    (c19 : PySem.W.codeIn K cd19 "_law_mixed" = true)
    (k19 : PySem.W.keepIn K (.ref f19) = true)
    (a20 : PySem.W.nsIn K mainGlobals "_law_folded" = some (some (.ref f20)))
    (l20 : K.lookup f20 = some ⟨oc20, od20, .func (PySem.W.fnOf "_law_folded" "_law_folded" (defArgs s20) (defBody s20) (defScope s20) .none kV20 dc20 pm20 an20 cd20 ct20), sl20⟩)
    (c20 : PySem.W.codeIn K cd20 "_law_folded" = true)
    (k20 : PySem.W.keepIn K (.ref f20) = true)
    (a21 : PySem.W.nsIn K mainGlobals "_law_draw" = some (some (.ref f21)))
    (l21 : K.lookup f21 = some ⟨oc21, od21, .func (PySem.W.fnOf "_law_draw" "_law_draw" (defArgs s21) (defBody s21) (defScope s21) .none kV21 dc21 pm21 an21 cd21 ct21), sl21⟩)
    (c21 : PySem.W.codeIn K cd21 "_law_draw" = true)
    (k21 : PySem.W.keepIn K (.ref f21) = true)
    (a22 : PySem.W.nsIn K mainGlobals "_law_begun" = some (some (.ref f22)))
    (l22 : K.lookup f22 = some ⟨oc22, od22, .func (PySem.W.fnOf "_law_begun" "_law_begun" (defArgs s22) (defBody s22) (defScope s22) .none kV22 dc22 pm22 an22 cd22 ct22), sl22⟩)
    (c22 : PySem.W.codeIn K cd22 "_law_begun" = true)
    (k22 : PySem.W.keepIn K (.ref f22) = true)
    (a24 : PySem.W.nsIn K mainGlobals "_law_like" = some (some (.ref f24)))
    (l24 : K.lookup f24 = some ⟨oc24, od24, .func (PySem.W.fnOf "_law_like" "_law_like" (defArgs s24) (defBody s24) (defScope s24) .none kV24 dc24 pm24 an24 cd24 ct24), sl24⟩)
    (c24 : PySem.W.codeIn K cd24 "_law_like" = true)
    (k24 : PySem.W.keepIn K (.ref f24) = true)
    (a25 : PySem.W.nsIn K mainGlobals "_law_named" = some (some (.ref f25)))
    (l25 : K.lookup f25 = some ⟨oc25, od25, .func (PySem.W.fnOf "_law_named" "_law_named" (defArgs s25) (defBody s25) (defScope s25) .none kV25 dc25 pm25 an25 cd25 ct25), sl25⟩)
    (c25 : PySem.W.codeIn K cd25 "_law_named" = true)
    (k25 : PySem.W.keepIn K (.ref f25) = true)
    (a28 : PySem.W.nsIn K mainGlobals "_law_upon" = some (some (.ref f28)))
    (l28 : K.lookup f28 = some ⟨oc28, od28, .func (PySem.W.fnOf "_law_upon" "_law_upon" (defArgs s28) (defBody s28) (defScope s28) .none kV28 dc28 pm28 an28 cd28 ct28), sl28⟩)
    (c28 : PySem.W.codeIn K cd28 "_law_upon" = true)
    (k28 : PySem.W.keepIn K (.ref f28) = true)
    (a33 : PySem.W.nsIn K mainGlobals "_law_some_figure" = some (some (.ref f33)))
    (l33 : K.lookup f33 = some ⟨oc33, od33, .func (PySem.W.fnOf "_law_some_figure" "_law_some_figure" (defArgs s33) (defBody s33) (defScope s33) .none kV33 dc33 pm33 an33 cd33 ct33), sl33⟩)
    (c33 : PySem.W.codeIn K cd33 "_law_some_figure" = true)
    (k33 : PySem.W.keepIn K (.ref f33) = true)
    (a68 : PySem.W.nsIn K mainGlobals "_law_lots" = some (some (.ref f68)))
    (l68 : K.lookup f68 = some ⟨oc68, od68, .func (PySem.W.fnOf "_law_lots" "_law_lots" (defArgs s68) (defBody s68) (defScope s68) .none kV68 dc68 pm68 an68 cd68 ct68), sl68⟩)
    (c68 : PySem.W.codeIn K cd68 "_law_lots" = true)
    (k68 : PySem.W.keepIn K (.ref f68) = true)
    (a69 : PySem.W.nsIn K mainGlobals "_law_zero_right" = some (some (.ref f69)))
    (l69 : K.lookup f69 = some ⟨oc69, od69, .func (PySem.W.fnOf "_law_zero_right" "_law_zero_right" (defArgs s69) (defBody s69) (defScope s69) .none kV69 dc69 pm69 an69 cd69 ct69), sl69⟩)
    (c69 : PySem.W.codeIn K cd69 "_law_zero_right" = true)
    (k69 : PySem.W.keepIn K (.ref f69) = true)
    (a70 : PySem.W.nsIn K mainGlobals "law" = some (some (.ref f70)))
    (l70 : K.lookup f70 = some ⟨oc70, od70, .func (PySem.W.fnOf "law" "law" (defArgs s70) (defBody s70) (defScope s70) .none kV70 dc70 pm70 an70 cd70 ct70), sl70⟩)
    (c70 : PySem.W.codeIn K cd70 "law" = true)
    (k70 : PySem.W.keepIn K (.ref f70) = true)
    (pg1 : PySem.W.plainGet K C1 Str.empty = true)
    (hd1 : PySem.W.hasDictIn K C1 = true)
    (po1 : PySem.W.plainOver K C1 = true)
    (sa1 : PySem.W.findIn K (.ref C1) "__setattr__" = some (some (.builtin "object.__setattr__")))
    (mk1 : PySem.W.makesIn K C1 = true)
    (kc1 : PySem.W.keepIn K (.ref C1) = true)
    (n1_0 : PySem.W.findIn K (.ref C1) "own_cords" = some none)
    (n1_1 : PySem.W.findIn K (.ref C1) "own_figure" = some none)
    (n1_4 : PySem.W.findIn K (.ref C1) "own_first" = some none)
    (n1_3 : PySem.W.findIn K (.ref C1) "own_lost" = some none)
    (n1_2 : PySem.W.findIn K (.ref C1) "own_powers" = some none)
    (vv0 : PySem.W.nsIn K mainGlobals "MOST_CORDS" = some (some (.int 5 t0)))
    (vv1 : PySem.W.nsIn K mainGlobals "MOST_TIMES" = some (some (.int 1000000000 t1)))
    (z_len : PySem.W.nsIn K mainGlobals "len" = some none)
    (z_max : PySem.W.nsIn K mainGlobals "max" = some none)
    (z_min : PySem.W.nsIn K mainGlobals "min" = some none)
    (z_int : PySem.W.nsIn K mainGlobals "int" = some none)
    (z_tuple : PySem.W.nsIn K mainGlobals "tuple" = some none)
    (z_list : PySem.W.nsIn K mainGlobals "list" = some none)
    (z_sorted : PySem.W.nsIn K mainGlobals "sorted" = some none)
    (z_sum : PySem.W.nsIn K mainGlobals "sum" = some none)
    (z_isinstance : PySem.W.nsIn K mainGlobals "isinstance" = some none)
    (z_repr : PySem.W.nsIn K mainGlobals "repr" = some none)
    (z_all : PySem.W.nsIn K mainGlobals "all" = some none)
    (z_any : PySem.W.nsIn K mainGlobals "any" = some none)
    (z_abs : PySem.W.nsIn K mainGlobals "abs" = some none)
    (z_range : PySem.W.nsIn K mainGlobals "range" = some none)
    (z_enumerate : PySem.W.nsIn K mainGlobals "enumerate" = some none)
    (z_zip : PySem.W.nsIn K mainGlobals "zip" = some none)
    (z_bool : PySem.W.nsIn K mainGlobals "bool" = some none)
    (z_str : PySem.W.nsIn K mainGlobals "str" = some none)
    (z_divmod : PySem.W.nsIn K mainGlobals "divmod" = some none)
    (z_set : PySem.W.nsIn K mainGlobals "set" = some none)
    (wf : Nat) : ∃ adr T, T.w = w ∧ adr 70 = fa ∧ LawT K mg G T (P wf) adr := by
  have e : f70 = fa := by
    have e := (PySem.W.mg_of X Gn a70).symm.trans hfa
    injection e with e
    injection e
  subst e
  have F0 := fun_mk (st := s0) l0 c0 k0
  have B0 := F0.binds (ps := p0) fun _ _ _ _ _ _ us hl => match us, hl with | [_], _ => rfl
  have F1 := fun_mk (st := s1) l1 c1 k1
  have B1 := F1.binds (ps := p1) fun _ _ _ _ _ _ us hl => match us, hl with | [_, _, _], _ => rfl
  have F2 := fun_mk (st := s2) l2 c2 k2
  have B2 := F2.binds (ps := p2) fun _ _ _ _ _ _ us hl => match us, hl with | [_, _], _ => rfl
  have F3 := fun_mk (st := s3) l3 c3 k3
  have B3 := F3.binds (ps := p3) fun _ _ _ _ _ _ us hl => match us, hl with | [_], _ => rfl
  have F4 := fun_mk (st := s4) l4 c4 k4
  have B4 := F4.binds (ps := p4) fun _ _ _ _ _ _ us hl => match us, hl with | [_, _], _ => rfl
  have F5 := fun_mk (st := s5) l5 c5 k5
  have B5 := F5.binds (ps := p5) fun _ _ _ _ _ _ us hl => match us, hl with | [_], _ => rfl
  have F6 := fun_mk (st := s6) l6 c6 k6
  have B6 := F6.binds (ps := p6) fun _ _ _ _ _ _ us hl => match us, hl with | [_], _ => rfl
  have F7 := fun_mk (st := s7) l7 c7 k7
  have B7 := F7.binds (ps := p7) fun _ _ _ _ _ _ us hl => match us, hl with | [_, _], _ => rfl
  have F8 := fun_mk (st := s8) l8 c8 k8
  have B8 := F8.binds (ps := p8) fun _ _ _ _ _ _ us hl => match us, hl with | [_, _, _], _ => rfl
  have F9 := fun_mk (st := s9) l9 c9 k9
  have B9 := F9.binds (ps := p9) fun _ _ _ _ _ _ us hl => match us, hl with | [_, _, _], _ => rfl
  have F47 := fun_mk (st := s47) l47 c47 k47
  have B47 := F47.binds (ps := p47) fun _ _ _ _ _ _ us hl => match us, hl with | [_, _], _ => rfl
  have F48 := fun_mk (st := s48) l48 c48 k48
  have B48 := F48.binds (ps := p48) fun _ _ _ _ _ _ us hl => match us, hl with | [_, _, _], _ => rfl
  have F49 := fun_mk (st := s49) l49 c49 k49
  have B49 := F49.binds (ps := p49) fun _ _ _ _ _ _ us hl => match us, hl with | [_, _], _ => rfl
  have F50 := fun_mk (st := s50) l50 c50 k50
  have B50 := F50.binds (ps := p50) fun _ _ _ _ _ _ us hl => match us, hl with | [_, _], _ => rfl
  have F51 := fun_mk (st := s51) l51 c51 k51
  have B51 := F51.binds (ps := p51) fun _ _ _ _ _ _ us hl => match us, hl with | [_, _, _], _ => rfl
  have F52 := fun_mk (st := s52) l52 c52 k52
  have B52 := F52.binds (ps := p52) fun _ _ _ _ _ _ us hl => match us, hl with | [_, _], _ => rfl
  have F53 := fun_mk (st := s53) l53 c53 k53
  have B53 := F53.binds (ps := p53) fun _ _ _ _ _ _ us hl => match us, hl with | [_, _], _ => rfl
  have F54 := fun_mk (st := s54) l54 c54 k54
  have B54 := F54.binds (ps := p54) fun _ _ _ _ _ _ us hl => match us, hl with | [_, _], _ => rfl
  have F55 := fun_mk (st := s55) l55 c55 k55
  have B55 := F55.binds (ps := p55) fun _ _ _ _ _ _ us hl => match us, hl with | [_, _], _ => rfl
  have F56 := fun_mk (st := s56) l56 c56 k56
  have B56 := F56.binds (ps := p56) fun _ _ _ _ _ _ us hl => match us, hl with | [_, _], _ => rfl
  have F57 := fun_mk (st := s57) l57 c57 k57
  have B57 := F57.binds (ps := p57) fun _ _ _ _ _ _ us hl => match us, hl with | [_, _], _ => rfl
  have F58 := fun_mk (st := s58) l58 c58 k58
  have B58 := F58.binds (ps := p58) fun _ _ _ _ _ _ us hl => match us, hl with | [_, _], _ => rfl
  have F59 := fun_mk (st := s59) l59 c59 k59
  have B59 := F59.binds (ps := p59) fun _ _ _ _ _ _ us hl => match us, hl with | [_, _], _ => rfl
  have F60 := fun_mk (st := s60) l60 c60 k60
  have B60 := F60.binds (ps := p60) fun _ _ _ _ _ _ us hl => match us, hl with | [_, _], _ => rfl
  have F61 := fun_mk (st := s61) l61 c61 k61
  have B61 := F61.binds (ps := p61) fun _ _ _ _ _ _ us hl => match us, hl with | [_, _, _], _ => rfl
  have F62 := fun_mk (st := s62) l62 c62 k62
  have B62 := F62.binds (ps := p62) fun _ _ _ _ _ _ us hl => match us, hl with | [_, _], _ => rfl
  have F63 := fun_mk (st := s63) l63 c63 k63
  have B63 := F63.binds (ps := p63) fun _ _ _ _ _ _ us hl => match us, hl with | [_, _, _, _], _ => rfl
  have F64 := fun_mk (st := s64) l64 c64 k64
  have B64 := F64.binds (ps := p64) fun _ _ _ _ _ _ us hl => match us, hl with | [_, _], _ => rfl
  have F65 := fun_mk (st := s65) l65 c65 k65
  have B65 := F65.binds (ps := p65) fun _ _ _ _ _ _ us hl => match us, hl with | [_, _, _], _ => rfl
  have F10 := fun_mk (st := s10) l10 c10 k10
  have B10 := F10.binds (ps := p10) fun _ _ _ _ _ _ us hl => match us, hl with | [_, _, _], _ => rfl
  have F11 := fun_mk (st := s11) l11 c11 k11
  have B11 := F11.binds (ps := p11) fun _ _ _ _ _ _ us hl => match us, hl with | [_], _ => rfl
  have F12 := fun_mk (st := s12) l12 c12 k12
  have B12 := F12.binds (ps := p12) fun _ _ _ _ _ _ us hl => match us, hl with | [_, _], _ => rfl
  have F13 := fun_mk (st := s13) l13 c13 k13
  have B13 := F13.binds (ps := p13) fun _ _ _ _ _ _ us hl => match us, hl with | [_, _], _ => rfl
  have F37 := fun_mk (st := s37) l37 c37 k37
  have B37 := F37.binds (ps := p37) fun _ _ _ _ _ _ us hl => match us, hl with | [_, _], _ => rfl
  have F14 := fun_mk (st := s14) l14 c14 k14
  have B14 := F14.binds (ps := p14) fun _ _ _ _ _ _ us hl => match us, hl with | [_], _ => rfl
  have F15 := fun_mk (st := s15) l15 c15 k15
  have B15 := F15.binds (ps := p15) fun _ _ _ _ _ _ us hl => match us, hl with | [_, _], _ => rfl
  have F38 := fun_mk (st := s38) l38 c38 k38
  have B38 := F38.binds (ps := p38) fun _ _ _ _ _ _ us hl => match us, hl with | [_, _, _], _ => rfl
  have F17 := fun_mk (st := s17) l17 c17 k17
  have B17 := F17.binds (ps := p17) fun _ _ _ _ _ _ us hl => match us, hl with | [_, _], _ => rfl
  have F66 := fun_mk (st := s66) l66 c66 k66
  have B66 := F66.binds (ps := p66) fun _ _ _ _ _ _ us hl => match us, hl with | [_, _], _ => rfl
  have F39 := fun_mk (st := s39) l39 c39 k39
  have B39 := F39.binds (ps := p39) fun _ _ _ _ _ _ us hl => match us, hl with | [_, _], _ => rfl
  have F40 := fun_mk (st := s40) l40 c40 k40
  have B40 := F40.binds (ps := p40) fun _ _ _ _ _ _ us hl => match us, hl with | [_, _], _ => rfl
  have F67 := fun_mk (st := s67) l67 c67 k67
  have B67 := F67.binds (ps := p67) fun _ _ _ _ _ _ us hl => match us, hl with | [_, _], _ => rfl
  have F41 := fun_mk (st := s41) l41 c41 k41
  have B41 := F41.binds (ps := p41) fun _ _ _ _ _ _ us hl => match us, hl with | [_, _, _], _ => rfl
  have F19 := fun_mk (st := s19) l19 c19 k19
  have B19 := F19.binds (ps := p19) fun _ _ _ _ _ _ us hl => match us, hl with | [_, _], _ => rfl
  have F20 := fun_mk (st := s20) l20 c20 k20
  have B20 := F20.binds (ps := p20) fun _ _ _ _ _ _ us hl => match us, hl with | [_], _ => rfl
  have F21 := fun_mk (st := s21) l21 c21 k21
  have B21 := F21.binds (ps := p21) fun _ _ _ _ _ _ us hl => match us, hl with | [_, _], _ => rfl
  have F22 := fun_mk (st := s22) l22 c22 k22
  have B22 := F22.binds (ps := p22) fun _ _ _ _ _ _ us hl => match us, hl with | [_], _ => rfl
  have F24 := fun_mk (st := s24) l24 c24 k24
  have B24 := F24.binds (ps := p24) fun _ _ _ _ _ _ us hl => match us, hl with | [_, _], _ => rfl
  have F25 := fun_mk (st := s25) l25 c25 k25
  have B25 := F25.binds (ps := p25) fun _ _ _ _ _ _ us hl => match us, hl with | [_], _ => rfl
  have F28 := fun_mk (st := s28) l28 c28 k28
  have B28 := F28.binds (ps := p28) fun _ _ _ _ _ _ us hl => match us, hl with | [_, _, _], _ => rfl
  have F33 := fun_mk (st := s33) l33 c33 k33
  have B33 := F33.binds (ps := p33) fun _ _ _ _ _ _ us hl => match us, hl with | [_, _], _ => rfl
  have F68 := fun_mk (st := s68) l68 c68 k68
  have B68 := F68.binds (ps := p68) fun _ _ _ _ _ _ us hl => match us, hl with | [_, _, _], _ => rfl
  have F69 := fun_mk (st := s69) l69 c69 k69
  have B69 := F69.binds (ps := p69) fun _ _ _ _ _ _ us hl => match us, hl with | [_, _], _ => rfl
  have F70 := fun_mk (st := s70) l70 c70 k70
  have B70 := F70.binds (ps := p70) fun _ _ _ _ _ _ us hl => match us, hl with | [_], _ => rfl
  let adr : Nat → PySem.Addr := fun i => (([(0, f0), (1, f1), (2, f2), (3, f3), (4, f4), (5, f5), (6, f6), (7, f7), (8, f8), (9, f9), (47, f47), (48, f48), (49, f49), (50, f50), (51, f51), (52, f52), (53, f53), (54, f54), (55, f55), (56, f56), (57, f57), (58, f58), (59, f59), (60, f60), (61, f61), (62, f62), (63, f63), (64, f64), (65, f65), (10, f10), (11, f11), (12, f12), (13, f13), (37, f37), (14, f14), (15, f15), (38, f38), (17, f17), (66, f66), (39, f39), (40, f40), (67, f67), (41, f41), (19, f19), (20, f20), (21, f21), (22, f22), (24, f24), (25, f25), (28, f28), (33, f33), (68, f68), (69, f69), (70, f70)] : List (Nat × PySem.Addr)).lookup i).getD 0
  let T : Tb := { w := w, K := K, cl := fun i => ([(1, C1)] : List (Nat × PySem.Addr)).lookup i, nm := nmOf nmL, inj := nmOf_inj (by decide +kernel) (by decide +kernel) }
  have D0 : FnD K G (P wf) (adr 0) 0 := fnD_mk F0 rfl sc0 rfl rfl ok0 B0 (show AllL _ [] from trivial)
  have D1 : FnD K G (P wf) (adr 1) 1 := fnD_mk F1 rfl sc1 rfl rfl ok1 B1 (show AllL _ [] from trivial)
  have D2 : FnD K G (P wf) (adr 2) 2 := fnD_mk F2 rfl sc2 rfl rfl ok2 B2 (show AllL _ [] from trivial)
  have D3 : FnD K G (P wf) (adr 3) 3 := fnD_mk F3 rfl sc3 rfl rfl ok3 B3 (show AllL _ [] from trivial)
  have D4 : FnD K G (P wf) (adr 4) 4 := fnD_mk F4 rfl sc4 rfl rfl ok4 B4 (show AllL _ [] from trivial)
  have D5 : FnD K G (P wf) (adr 5) 5 := fnD_mk F5 rfl sc5 rfl rfl ok5 B5 (show AllL _ [] from trivial)
  have D6 : FnD K G (P wf) (adr 6) 6 := fnD_mk F6 rfl sc6 rfl rfl ok6 B6 (show AllL _ [] from trivial)
  have D7 : FnD K G (P wf) (adr 7) 7 := fnD_mk F7 rfl sc7 rfl rfl ok7 B7 (show AllL _ [] from trivial)
  have D8 : FnD K G (P wf) (adr 8) 8 := fnD_mk F8 rfl sc8 rfl rfl ok8 B8 (show AllL _ [] from trivial)
  have D9 : FnD K G (P wf) (adr 9) 9 := fnD_mk F9 rfl sc9 rfl rfl ok9 B9 (show AllL _ [] from trivial)
  have D47 : FnD K G (P wf) (adr 47) 47 := fnD_mk F47 rfl sc47 rfl rfl ok47 B47 (show AllL _ [] from trivial)
  have D48 : FnD K G (P wf) (adr 48) 48 := fnD_mk F48 rfl sc48 rfl rfl ok48 B48 (show AllL _ [] from trivial)
  have D49 : FnD K G (P wf) (adr 49) 49 := fnD_mk F49 rfl sc49 rfl rfl ok49 B49 (show AllL _ [] from trivial)
  have D50 : FnD K G (P wf) (adr 50) 50 := fnD_mk F50 rfl sc50 rfl rfl ok50 B50 (show AllL _ [] from trivial)
  have D51 : FnD K G (P wf) (adr 51) 51 := fnD_mk F51 rfl sc51 rfl rfl ok51 B51 (show AllL _ [] from trivial)
  have D52 : FnD K G (P wf) (adr 52) 52 := fnD_mk F52 rfl sc52 rfl rfl ok52 B52 (show AllL _ [] from trivial)
  have D53 : FnD K G (P wf) (adr 53) 53 := fnD_mk F53 rfl sc53 rfl rfl ok53 B53 (show AllL _ [] from trivial)
  have D54 : FnD K G (P wf) (adr 54) 54 := fnD_mk F54 rfl sc54 rfl rfl ok54 B54 (show AllL _ [] from trivial)
  have D55 : FnD K G (P wf) (adr 55) 55 := fnD_mk F55 rfl sc55 rfl rfl ok55 B55 (show AllL _ [] from trivial)
  have D56 : FnD K G (P wf) (adr 56) 56 := fnD_mk F56 rfl sc56 rfl rfl ok56 B56 (show AllL _ [] from trivial)
  have D57 : FnD K G (P wf) (adr 57) 57 := fnD_mk F57 rfl sc57 rfl rfl ok57 B57 (show AllL _ [] from trivial)
  have D58 : FnD K G (P wf) (adr 58) 58 := fnD_mk F58 rfl sc58 rfl rfl ok58 B58 (show AllL _ [] from trivial)
  have D59 : FnD K G (P wf) (adr 59) 59 := fnD_mk F59 rfl sc59 rfl rfl ok59 B59 (show AllL _ [] from trivial)
  have D60 : FnD K G (P wf) (adr 60) 60 := fnD_mk F60 rfl sc60 rfl rfl ok60 B60 (show AllL _ [] from trivial)
  have D61 : FnD K G (P wf) (adr 61) 61 := fnD_mk F61 rfl sc61 rfl rfl ok61 B61 (show AllL _ [] from trivial)
  have D62 : FnD K G (P wf) (adr 62) 62 := fnD_mk F62 rfl sc62 rfl rfl ok62 B62 (show AllL _ [] from trivial)
  have D63 : FnD K G (P wf) (adr 63) 63 := fnD_mk F63 rfl sc63 rfl rfl ok63 B63 (show AllL _ [] from trivial)
  have D64 : FnD K G (P wf) (adr 64) 64 := fnD_mk F64 rfl sc64 rfl rfl ok64 B64 (show AllL _ [] from trivial)
  have D65 : FnD K G (P wf) (adr 65) 65 := fnD_mk F65 rfl sc65 rfl rfl ok65 B65 (show AllL _ [] from trivial)
  have D10 : FnD K G (P wf) (adr 10) 10 := fnD_mk F10 rfl sc10 rfl rfl ok10 B10 (show AllL _ [] from trivial)
  have D11 : FnD K G (P wf) (adr 11) 11 := fnD_mk F11 rfl sc11 rfl rfl ok11 B11 (show AllL _ [] from trivial)
  have D12 : FnD K G (P wf) (adr 12) 12 := fnD_mk F12 rfl sc12 rfl rfl ok12 B12 (show AllL _ [] from trivial)
  have D13 : FnD K G (P wf) (adr 13) 13 := fnD_mk F13 rfl sc13 rfl rfl ok13 B13 (show AllL _ [] from trivial)
  have D37 : FnD K G (P wf) (adr 37) 37 := fnD_mk F37 rfl sc37 rfl rfl ok37 B37 (show AllL _ [] from trivial)
  have D14 : FnD K G (P wf) (adr 14) 14 := fnD_mk F14 rfl sc14 rfl rfl ok14 B14 (show AllL _ [] from trivial)
  have D15 : FnD K G (P wf) (adr 15) 15 := fnD_mk F15 rfl sc15 rfl rfl ok15 B15 (show AllL _ [] from trivial)
  have D38 : FnD K G (P wf) (adr 38) 38 := fnD_mk F38 rfl sc38 rfl rfl ok38 B38 (show AllL _ [] from trivial)
  have D17 : FnD K G (P wf) (adr 17) 17 := fnD_mk F17 rfl sc17 rfl rfl ok17 B17 (show AllL _ [] from trivial)
  have D66 : FnD K G (P wf) (adr 66) 66 := fnD_mk F66 rfl sc66 rfl rfl ok66 B66 (show AllL _ [] from trivial)
  have D39 : FnD K G (P wf) (adr 39) 39 := fnD_mk F39 rfl sc39 rfl rfl ok39 B39 (show AllL _ [] from trivial)
  have D40 : FnD K G (P wf) (adr 40) 40 := fnD_mk F40 rfl sc40 rfl rfl ok40 B40 (show AllL _ [] from trivial)
  have D67 : FnD K G (P wf) (adr 67) 67 := fnD_mk F67 rfl sc67 rfl rfl ok67 B67 (show AllL _ [] from trivial)
  have D41 : FnD K G (P wf) (adr 41) 41 := fnD_mk F41 rfl sc41 rfl rfl ok41 B41 (show AllL _ [] from trivial)
  have D19 : FnD K G (P wf) (adr 19) 19 := fnD_mk F19 rfl sc19 rfl rfl ok19 B19 (show AllL _ [] from trivial)
  have D20 : FnD K G (P wf) (adr 20) 20 := fnD_mk F20 rfl sc20 rfl rfl ok20 B20 (show AllL _ [] from trivial)
  have D21 : FnD K G (P wf) (adr 21) 21 := fnD_mk F21 rfl sc21 rfl rfl ok21 B21 (show AllL _ [] from trivial)
  have D22 : FnD K G (P wf) (adr 22) 22 := fnD_mk F22 rfl sc22 rfl rfl ok22 B22 (show AllL _ [] from trivial)
  have D24 : FnD K G (P wf) (adr 24) 24 := fnD_mk F24 rfl sc24 rfl rfl ok24 B24 (show AllL _ [] from trivial)
  have D25 : FnD K G (P wf) (adr 25) 25 := fnD_mk F25 rfl sc25 rfl rfl ok25 B25 (show AllL _ [] from trivial)
  have D28 : FnD K G (P wf) (adr 28) 28 := fnD_mk F28 rfl sc28 rfl rfl ok28 B28 (show AllL _ [] from trivial)
  have D33 : FnD K G (P wf) (adr 33) 33 := fnD_mk F33 rfl sc33 rfl rfl ok33 B33 (show AllL _ [] from trivial)
  have D68 : FnD K G (P wf) (adr 68) 68 := fnD_mk F68 rfl sc68 rfl rfl ok68 B68 (show AllL _ [] from trivial)
  have D69 : FnD K G (P wf) (adr 69) 69 := fnD_mk F69 rfl sc69 rfl rfl ok69 B69 (show AllL _ [] from trivial)
  have D70 : FnD K G (P wf) (adr 70) 70 := fnD_mk F70 rfl sc70 rfl rfl ok70 B70 (show AllL _ [] from trivial)
  have dAll : AllL (fun e : Nat × FD => FnD K G (P wf) (adr e.1) e.1) fns := ⟨D0, D1, D2, D3, D4, D5, D6, D7, D8, D9, D47, D48, D49, D50, D51, D52, D53, D54, D55, D56, D57, D58, D59, D60, D61, D62, D63, D64, D65, D10, D11, D12, D13, D37, D14, D15, D38, D17, D66, D39, D40, D67, D41, D19, D20, D21, D22, D24, D25, D28, D33, D68, D69, D70, trivial⟩
  have nAll : AllL (fun e : PySem.Str × Nat => mg e.1 = some (.ref (adr e.2)) ∧ ∃ d, (P wf).fn e.2 = some d) G.fn := ⟨⟨PySem.W.mg_of X Gn a0, d0, rfl⟩, ⟨PySem.W.mg_of X Gn a1, d1, rfl⟩, ⟨PySem.W.mg_of X Gn a2, d2, rfl⟩, ⟨PySem.W.mg_of X Gn a3, d3, rfl⟩, ⟨PySem.W.mg_of X Gn a4, d4, rfl⟩, ⟨PySem.W.mg_of X Gn a5, d5, rfl⟩, ⟨PySem.W.mg_of X Gn a6, d6, rfl⟩, ⟨PySem.W.mg_of X Gn a7, d7, rfl⟩, ⟨PySem.W.mg_of X Gn a8, d8, rfl⟩, ⟨PySem.W.mg_of X Gn a9, d9, rfl⟩, ⟨PySem.W.mg_of X Gn a47, d47, rfl⟩, ⟨PySem.W.mg_of X Gn a48, d48, rfl⟩, ⟨PySem.W.mg_of X Gn a49, d49, rfl⟩, ⟨PySem.W.mg_of X Gn a50, d50, rfl⟩, ⟨PySem.W.mg_of X Gn a51, d51, rfl⟩, ⟨PySem.W.mg_of X Gn a52, d52, rfl⟩, ⟨PySem.W.mg_of X Gn a53, d53, rfl⟩, ⟨PySem.W.mg_of X Gn a54, d54, rfl⟩, ⟨PySem.W.mg_of X Gn a55, d55, rfl⟩, ⟨PySem.W.mg_of X Gn a56, d56, rfl⟩, ⟨PySem.W.mg_of X Gn a57, d57, rfl⟩, ⟨PySem.W.mg_of X Gn a58, d58, rfl⟩, ⟨PySem.W.mg_of X Gn a59, d59, rfl⟩, ⟨PySem.W.mg_of X Gn a60, d60, rfl⟩, ⟨PySem.W.mg_of X Gn a61, d61, rfl⟩, ⟨PySem.W.mg_of X Gn a62, d62, rfl⟩, ⟨PySem.W.mg_of X Gn a63, d63, rfl⟩, ⟨PySem.W.mg_of X Gn a64, d64, rfl⟩, ⟨PySem.W.mg_of X Gn a65, d65, rfl⟩, ⟨PySem.W.mg_of X Gn a14, d14, rfl⟩, ⟨PySem.W.mg_of X Gn a15, d15, rfl⟩, ⟨PySem.W.mg_of X Gn a38, d38, rfl⟩, ⟨PySem.W.mg_of X Gn a17, d17, rfl⟩, ⟨PySem.W.mg_of X Gn a66, d66, rfl⟩, ⟨PySem.W.mg_of X Gn a39, d39, rfl⟩, ⟨PySem.W.mg_of X Gn a40, d40, rfl⟩, ⟨PySem.W.mg_of X Gn a67, d67, rfl⟩, ⟨PySem.W.mg_of X Gn a41, d41, rfl⟩, ⟨PySem.W.mg_of X Gn a19, d19, rfl⟩, ⟨PySem.W.mg_of X Gn a20, d20, rfl⟩, ⟨PySem.W.mg_of X Gn a21, d21, rfl⟩, ⟨PySem.W.mg_of X Gn a22, d22, rfl⟩, ⟨PySem.W.mg_of X Gn a24, d24, rfl⟩, ⟨PySem.W.mg_of X Gn a25, d25, rfl⟩, ⟨PySem.W.mg_of X Gn a28, d28, rfl⟩, ⟨PySem.W.mg_of X Gn a33, d33, rfl⟩, ⟨PySem.W.mg_of X Gn a68, d68, rfl⟩, ⟨PySem.W.mg_of X Gn a69, d69, rfl⟩, ⟨PySem.W.mg_of X Gn a70, d70, rfl⟩, trivial⟩
  have cAll : AllL (fun e : PySem.Str × Nat => ∃ C f d, mg e.1 = some (.ref C) ∧ T.cl e.2 = some C ∧ (P wf).ini e.2 = some f ∧ Mk K C (adr f) ∧ (P wf).fn f = some d) G.cls := ⟨⟨C1, 10, d10, PySem.W.mg_of X Gn aC1, rfl, rfl, ⟨mk1, a10, i10, kc1⟩, rfl⟩, trivial⟩
  have gAll : AllL (fun e : PySem.Str × Val => ∃ u V, mg e.1 = some u ∧ RelV V u ∧ ∀ ι H, Rep T ι H e.2 V) G.gv := ⟨gv_int (PySem.W.mg_of X Gn vv0), gv_int (PySem.W.mg_of X Gn vv1), trivial⟩
  have bAll : AllL (fun x => mg x = none) bnames := ⟨PySem.W.mg_none_of X Gn z_len, PySem.W.mg_none_of X Gn z_max, PySem.W.mg_none_of X Gn z_min, PySem.W.mg_none_of X Gn z_int, PySem.W.mg_none_of X Gn z_tuple, PySem.W.mg_none_of X Gn z_list, PySem.W.mg_none_of X Gn z_sorted, PySem.W.mg_none_of X Gn z_sum, PySem.W.mg_none_of X Gn z_isinstance, PySem.W.mg_none_of X Gn z_repr, PySem.W.mg_none_of X Gn z_all, PySem.W.mg_none_of X Gn z_any, PySem.W.mg_none_of X Gn z_abs, PySem.W.mg_none_of X Gn z_range, PySem.W.mg_none_of X Gn z_enumerate, PySem.W.mg_none_of X Gn z_zip, PySem.W.mg_none_of X Gn z_bool, PySem.W.mg_none_of X Gn z_str, PySem.W.mg_none_of X Gn z_divmod, PySem.W.mg_none_of X Gn z_set, trivial⟩
  refine ⟨adr, T, rfl, rfl, ⟨rfl, rfl, fun f d h => dAll.mem (lookupN_mem h), fun x f h => nAll.mem (lookup_mem h), fun x c h => cAll.mem (lookup_mem h), ?_, ?_, ?_, fun x m => bAll.mem m, fun x v h => gAll.mem (lookup_mem h)⟩⟩
  · intro c C m f hc hm
    have hm : mtF c m = some f := hm
    unfold mtF at hm
    split at hm
    · cases hm; cases hc; exact ⟨⟨a11, i11, k11⟩, d11, rfl⟩
    · cases hm; cases hc; exact ⟨⟨a12, i12, k12⟩, d12, rfl⟩
    · cases hm; cases hc; exact ⟨⟨a13, i13, k13⟩, d13, rfl⟩
    · cases hm; cases hc; exact ⟨⟨a37, i37, k37⟩, d37, rfl⟩
    · cases hm
  · intro c C hc
    have q : AllL (fun e : Nat × PySem.Addr => Cls K e.2) [(1, C1)] := ⟨⟨pg1, hd1, po1, sa1⟩, trivial⟩
    exact q.mem (lookupN_mem hc)
  · intro c C f hc hm
    have hm : foF c f = true := hm
    unfold foF at hm
    split at hm
    · cases hc; exact n1_0
    · cases hc; exact n1_1
    · cases hc; exact n1_4
    · cases hc; exact n1_3
    · cases hc; exact n1_2
    · cases hm

end K97
set_option maxRecDepth 100000
namespace K97
open Z Fig
theorem c0 (w d : Nat) (i : Int) (h : Hip) : callF (P w) (d + 1) 0 [.int i] h = .ok (.bl true) h := by
  refine call_pure (fd := d0) rfl rfl (by simp [refsVs, refsV]) (ρ := [some (.int i)]) (g := []) ?_ (by simp [refsV]) h
  simp [d0, b0, exSs, exS, evE, evEs, biOp, fIs, tyOf, ok?]
theorem c1 (w d : Nat) (i lo hi : Int) (h : Hip) : callF (P w) (d + 2) 1 [.int i, .int lo, .int hi] h = .ok (.bl (decide (lo ≤ i) && decide (i ≤ hi))) h := by
  refine call_pure (fd := d1) rfl rfl (by simp [refsVs, refsV]) (ρ := [some (.int i), some (.int lo), some (.int hi)]) (g := []) ?_ (by simp [refsV]) h
  simp only [d1, b1, exSs, exS, evE, evEs, Res.bind, List.map, List.replicate, List.append_nil, Nat.sub_self, List.getElem?_cons_zero, List.getElem?_cons_succ, c0, ok?, cmpOp, intOp]
  by_cases h1 : lo ≤ i <;> simp [h1]
theorem c2 (w d : Nat) (l : List Int) (n : Int) (h : Hip) : callF (P w) (d + 1) 2 [.tup (vI l), .int n] h = .ok (.bl (decide ((l.length : Int) = n))) h := by
  refine call_pure (fd := d2) rfl rfl (by simp [refsVs, refsV]) (ρ := [some (.tup (vI l)), some (.int n)]) (g := []) ?_ (by simp [refsV]) h
  simp [d2, b2, exSs, exS, evE, evEs, biOp, fIs, tyOf, ok?, fLen, lenOp, cmpOp]
theorem c3 (w d : Nat) (n : Int) (h1 : 1 ≤ n) (h2 : n ≤ 5) (h : Hip) : callF (P w) (d + 3) 3 [.int n] h = .ok (.int n) h := by
  refine call_pure (fd := d3) rfl rfl (by simp [refsVs, refsV]) (ρ := [some (.int n)]) (g := []) ?_ (by simp [refsV]) h
  simp [d3, b3, exSs, exS, evE, evEs, c1, h1, h2]
end K97

set_option maxRecDepth 100000
namespace K97
open Z Fig
/-! need_figure -/
theorem need_loop (w d : Nat) (n fig : Val) : ∀ (xs seen : List Int) (i : Nat) (it : Wk) (p q : Option Val) (h : Hip), (∀ j h, it.at j h = true) →
    ∃ p' q', forL it (loopStep (.tp [3, 4]) (exSs (P w) (callF (P w) (d + 2)) b4_0)) i
      (pairs (rng (i : Nat) xs.length) (vI (namG seen xs))) [some n, some fig, some (.int ((seen.length : Int) - 1)), p, q] h = .ok (.nx, [some n, some fig, some (.int (((seenG seen xs).length : Int) - 1)), p', q']) h
  | [], seen, i, it, p, q, h, hat => by
    refine ⟨p, q, ?_⟩
    simp [namG, vI, pairs, rng, seenG, forL, hat]
  | x :: xs, seen, i, it, p, q, h, hat => by
    have e1 : namG seen (x :: xs) = if x ∈ seen then (seen.idxOf x : Int) :: namG seen xs else (seen.length : Int) :: namG (seen ++ [x]) xs := rfl
    have e3 : seenG seen (x :: xs) = if x ∈ seen then seenG seen xs else seenG (seen ++ [x]) xs := rfl
    have ei : ((i : Int) + 1) = ((i + 1 : Nat) : Int) := by omega
    rw [e1, e3]
    by_cases m : x ∈ seen
    · rw [if_pos m, if_pos m]
      have lt := List.idxOf_lt_length_iff.mpr m
      obtain ⟨p', q', ih⟩ := need_loop w d n fig xs seen (i + 1) it (some (.int i)) (some (.int (seen.idxOf x : Int))) h hat
      refine ⟨p', q', ?_⟩
      rw [vI_cons, List.length_cons]
      show forL it _ i (.tup [.int i, .int (seen.idxOf x : Int)] :: pairs (rng ((i : Int) + 1) xs.length) (vI (namG seen xs))) _ h = _
      unfold forL
      rw [if_pos (hat _ _), ei]
      have g1 : (decide ((0 : Int) ≤ (seen.idxOf x : Int)) && decide ((seen.idxOf x : Int) ≤ (seen.length : Int) - 1 + 1)) = true := by simp; omega
      have g2 : ¬ ((seen.idxOf x : Int) > (seen.length : Int) - 1) := by omega
      simp only [b4_0, loopStep, setT, setTs, List.set, exSs, exS, evE, evEs, Res.bind, List.getElem?_cons_zero, List.getElem?_cons_succ, binOp, c1, g1, Bool.not_true, biOp, fMax2, if_neg g2, ok?]
      exact ih
    · rw [if_neg m, if_neg m]
      obtain ⟨p', q', ih⟩ := need_loop w d n fig xs (seen ++ [x]) (i + 1) it (some (.int i)) (some (.int (seen.length : Int))) h hat
      refine ⟨p', q', ?_⟩
      rw [vI_cons, List.length_cons]
      show forL it _ i (.tup [.int i, .int (seen.length : Int)] :: pairs (rng ((i : Int) + 1) xs.length) (vI (namG (seen ++ [x]) xs))) _ h = _
      unfold forL
      rw [if_pos (hat _ _), ei]
      have g1 : (decide ((0 : Int) ≤ (seen.length : Int)) && decide ((seen.length : Int) ≤ (seen.length : Int) - 1 + 1)) = true := by simp
      have g2 : ((seen.length : Int) > (seen.length : Int) - 1) := by omega
      have g3 : (((seen ++ [x]).length : Int) - 1) = (seen.length : Int) := by rw [List.length_append, List.length_singleton]; omega
      rw [g3] at ih
      simp only [b4_0, loopStep, setT, setTs, List.set, exSs, exS, evE, evEs, Res.bind, List.getElem?_cons_zero, List.getElem?_cons_succ, binOp, c1, g1, Bool.not_true, biOp, fMax2, if_pos g2, ok?]
      exact ih
theorem c4 (w d : Nat) {n : Nat} {l : List Int} (f : Fg n l) (hn : n < 1000) (h : Hip) : callF (P w) (d + 3) 4 [.int n, .tup (vI l)] h = .ok (.tup (vI l)) h := by
  obtain ⟨p', q', e⟩ := need_loop w d (.int n) (.tup (vI l)) l [] 0 ⟨pairs (rng 0 (vI l).length) (vI l), none⟩ none none [] (fun _ _ => rfl)
  refine call_pure (fd := d4) rfl rfl (by simp [refsVs, refsV]) (ρ := [some (.int n), some (.tup (vI l)), some (.int (((seenG [] l).length : Int) - 1)), p', q']) (g := []) ?_ (by simp [refsV]) h
  have en : namG [] l = l := f.nm
  rw [en] at e
  have hm : mulOk 2 (n : Int) = true := by simp [mulOk]
  have hl : decide ((l.length : Int) = 2 * (n : Int)) = true := by rw [f.len]; simp
  simp only [d4, b4, exSs, exS, evE, evEs, evI, Res.bind, List.map, List.replicate, List.append_nil, List.cons_append, List.nil_append, List.getElem?_cons_zero, List.getElem?_cons_succ, binOp, hm, if_pos, c2, hl, Bool.not_true, setT, List.set, ok?]
  simp only [vI_len] at e ⊢
  have e : forL ⟨pairs (rng 0 l.length) (vI l), none⟩ _ 0 (pairs (rng 0 l.length) (vI l)) [some (.int n), some (.tup (vI l)), some (.int (-1)), none, none] [] = _ := e
  rw [e]
  rfl
/-! straight_in -/
theorem c6 (w d : Nat) {n : Nat} (hn : n < 500) (h : Hip) : callF (P w) (d + 1) 6 [.int n] h = .ok (.tup (vI (strt n))) h := by
  refine call_pure (fd := d6) rfl rfl (by simp [refsVs, refsV]) (ρ := [some (.int n)]) (g := [.lst (vI ((List.range n).map fun i : Nat => (i : Int))), .lst (vI (strt n))]) ?_ (by simp [refsV]) h
  have e3 : strt n = (List.range n).map (fun i : Nat => (i : Int)) ++ (List.range n).map (fun i : Nat => (i : Int)) := rfl
  show exSs (P w) (callF (P w) d) b6 [some (.int n)] [] = _
  refine x_ret (e_1 (e_2 (e_lr (n := n) (by omega) (show evE (P w) _ (.var 0) [some (.int n)] [] = _ from by simp only [evE]; rfl)) (by simp only [evE]; rfl) (mul2 (xs := vI ((List.range n).map fun i : Nat => (i : Int))) rfl (by simp; omega))) ?_)
  rw [e3, vI_app]
  exact tup_ref rfl
end K97

set_option maxRecDepth 100000
namespace K97
open Z Fig
/-! named_in -/
def kvD (s : Nat) : List Int → List (Val × Val)
  | [] => []
  | x :: xs => (.int x, .int (s : Nat)) :: kvD (s + 1) xs
theorem kvD_len : ∀ (l : List Int) (s : Nat), (kvD s l).length = l.length
  | [], _ => rfl
  | _ :: l, s => by show (kvD (s + 1) l).length + 1 = _; rw [kvD_len l]; rfl
theorem kvD_keys : ∀ (l : List Int) (s : Nat), (kvD s l).all (fun p => isKey1 p.1) = true
  | [], _ => rfl
  | _ :: l, s => by show (true && (kvD (s + 1) l).all fun p => isKey1 p.1) = true; rw [kvD_keys l]; rfl
theorem kvD_get (x : Int) : ∀ (l : List Int) (s : Nat), dget (.int x) (kvD s l) = if x ∈ l then some (.int ((s + l.idxOf x : Nat) : Int)) else none
  | [], _ => by simp [kvD, dget]
  | y :: l, s => by
    show (if Val.int y = Val.int x then some (Val.int (s : Nat)) else dget (.int x) (kvD (s + 1) l)) = _
    by_cases h : y = x
    · subst h
      rw [if_pos rfl, if_pos List.mem_cons_self, List.idxOf_cons_self, Nat.add_zero]
    · rw [if_neg (fun z => h (Val.int.inj z)), kvD_get x l (s + 1)]
      by_cases m : x ∈ l
      · rw [if_pos m, if_pos (List.mem_cons_of_mem _ m), show (y :: l).idxOf x = l.idxOf x + 1 from by rw [List.idxOf_cons, beq_eq_false_iff_ne.mpr h]; rfl]
        congr 3
        omega
      · rw [if_neg m, if_neg]
        intro z
        rcases List.mem_cons.mp z with z | z
        · exact h z.symm
        · exact m z
theorem kvD_app (x : Int) : ∀ (l : List Int) (s : Nat), kvD s (l ++ [x]) = kvD s l ++ [(.int x, .int ((s + l.length : Nat) : Int))]
  | [], s => by simp [kvD]
  | y :: l, s => by
    show (_, _) :: kvD (s + 1) (l ++ [x]) = (_, _) :: (kvD (s + 1) l ++ _)
    rw [kvD_app x l (s + 1), List.length_cons, show s + 1 + l.length = s + (l.length + 1) by omega]
theorem kvD_put {x : Int} {l : List Int} (h : x ∉ l) : dput (.int x) (.int (l.length : Nat)) (kvD 0 l) = kvD 0 (l ++ [x]) := by
  have hn : ∀ (l : List Int) (s : Nat), x ∉ l → ((kvD s l).any fun p => decide (p.1 = .int x)) = false := fun l => by
    induction l with
    | nil => exact fun _ _ => rfl
    | cons y l ih =>
      intro s m
      show (decide (Val.int y = Val.int x) || (kvD (s + 1) l).any fun p => decide (p.1 = .int x)) = false
      rw [ih (s + 1) fun z => m (List.mem_cons_of_mem _ z), decide_eq_false fun z => m (by rw [Val.int.inj z]; exact List.mem_cons_self)]
      rfl
  unfold dput
  rw [hn l 0 h, if_neg Bool.false_ne_true, kvD_app, Nat.zero_add]
section
variable {x : Int} {seen : List Int} {r : Hip}
theorem kv_ok : ((kvD 0 seen).all (fun p => isKey1 p.1) && isKey1 (.int x) || (kvD 0 seen).all (fun p => isKeyT p.1) && isKeyT (.int x)) = true := by
  rw [kvD_keys]; rfl
theorem in_kv : inOp (.dct (kvD 0 seen) :: r) (.int x) (.ref 0) = some (decide (x ∈ seen)) := by
  show (if ((kvD 0 seen).all (fun p => isKey1 p.1) && isKey1 (.int x) || (kvD 0 seen).all (fun p => isKeyT p.1) && isKeyT (.int x)) = true then some ((dget (.int x) (kvD 0 seen)).isSome) else none) = _
  rw [kv_ok, if_pos rfl, kvD_get]
  by_cases m : x ∈ seen <;> simp [m]
theorem notin_kv : cmpOp .notin (.int x) (.ref 0) (.dct (kvD 0 seen) :: r) = some (!decide (x ∈ seen)) := by
  show (inOp _ (.int x) (.ref 0)).map (!·) = _
  rw [in_kv]
  rfl
theorem ix_kv (m : x ∈ seen) : ixOp (.ref 0) (.int x) (.dct (kvD 0 seen) :: r) = some (.int (seen.idxOf x : Nat)) := by
  show (if ((kvD 0 seen).all (fun p => isKey1 p.1) && isKey1 (.int x) || (kvD 0 seen).all (fun p => isKeyT p.1) && isKeyT (.int x)) = true then dget (.int x) (kvD 0 seen) else none) = _
  rw [kv_ok, if_pos rfl, kvD_get, if_pos m, Nat.zero_add]
theorem len_kv : biOp .len [.ref 0] (.dct (kvD 0 seen) :: r) = .ok (.int (seen.length : Nat)) (.dct (kvD 0 seen) :: r) := by
  show ok? (lenOp (.dct (kvD 0 seen) :: r) (.ref 0)) (fun n => Val.int (n : Int)) _ = _
  show ok? (some (kvD 0 seen).length) (fun n => Val.int (n : Int)) _ = _
  rw [kvD_len]
  rfl
theorem put_kv (m : x ∉ seen) (hs : seen.length + 1 < 16777216) : putIx (.ref 0) (.int x) (.int (seen.length : Nat)) (.dct (kvD 0 seen) :: r) = .ok () (.dct (kvD 0 (seen ++ [x])) :: r) := by
  show (if (((kvD 0 seen).all (fun p => isKey1 p.1) && isKey1 (.int x) || (kvD 0 seen).all (fun p => isKeyT p.1) && isKeyT (.int x)) && fits ((kvD 0 seen).length + 1)) = true then Res.ok () (((.dct (kvD 0 seen) : Ob) :: r).set 0 (.dct (dput (.int x) (.int (seen.length : Nat)) (kvD 0 seen)))) else .bad) = _
  rw [kv_ok, kvD_len, fits_of hs, kvD_put m]
  rfl
theorem app_1 {o : Ob} {xs : List Val} {v : Val} (hs : xs.length < 16777216) : bmOp .append (.ref 1) [v] [o, .lst xs] = .ok .non [o, .lst (xs ++ [v])] := by
  show (if fits xs.length = true then Res.ok Val.non ([o, .lst xs].set 1 (.lst (xs ++ [v]))) else .bad) = _
  rw [fits_of hs]
  rfl
end
theorem named_loop (w d : Nat) (mk : Val) : ∀ (xs seen found : List Int) (i : Nat) (it : Wk) (p : Option Val), (∀ j h, it.at j h = true) → seen.length + xs.length < 1000 → found.length + xs.length < 1000 →
    ∃ p', forL it (loopStep (.nm 1) (exSs (P w) (callF (P w) d) b5_0)) i (vI xs) [some mk, p, some (.ref 0), some (.ref 1)] [.dct (kvD 0 seen), .lst (vI found)] =
      .ok (.nx, [some mk, p', some (.ref 0), some (.ref 1)]) [.dct (kvD 0 (seenG seen xs)), .lst (vI (found ++ namG seen xs))]
  | [], seen, found, i, it, p, hat, _, _ => by
    refine ⟨p, ?_⟩
    simp [namG, seenG, forL, hat]
  | x :: xs, seen, found, i, it, p, hat, s1, s2 => by
    have e1 : namG seen (x :: xs) = if x ∈ seen then (seen.idxOf x : Int) :: namG seen xs else (seen.length : Int) :: namG (seen ++ [x]) xs := rfl
    have e3 : seenG seen (x :: xs) = if x ∈ seen then seenG seen xs else seenG (seen ++ [x]) xs := rfl
    rw [List.length_cons] at s1 s2
    have ft : fits found.length = true := fits_of (by omega)
    have fs : fits (seen.length + 1) = true := fits_of (by omega)
    rw [e1, e3]
    by_cases m : x ∈ seen
    · rw [if_pos m, if_pos m]
      obtain ⟨p', ih⟩ := named_loop w d mk xs seen (found ++ [(seen.idxOf x : Int)]) (i + 1) it (some (.int x)) hat (by omega) (by rw [List.length_append, List.length_singleton]; omega)
      refine ⟨p', ?_⟩
      rw [vI_cons]
      unfold forL
      rw [if_pos (hat _ _)]
      simp only [b5_0, loopStep, setT, List.set, exSs, exS, evE, evEs, Res.bind, List.getElem?_cons_zero, List.getElem?_cons_succ, notin_kv, m, decide_true, Bool.not_true, ok?, ix_kv m, id, app_1 (show (vI found).length < 16777216 by rw [vI_len]; omega)]
      rw [vI_app, vI_cons, vI_nil, List.append_assoc, vI_app] at ih
      rw [vI_app, vI_cons]
      exact ih
    · rw [if_neg m, if_neg m]
      obtain ⟨p', ih⟩ := named_loop w d mk xs (seen ++ [x]) (found ++ [(seen.length : Int)]) (i + 1) it (some (.int x)) hat (by rw [List.length_append, List.length_singleton]; omega) (by rw [List.length_append, List.length_singleton]; omega)
      refine ⟨p', ?_⟩
      rw [vI_cons]
      unfold forL
      rw [if_pos (hat _ _)]
      have ix : (seen ++ [x]).idxOf x = seen.length := by
        rw [List.idxOf_append, if_neg m]; simp
      simp only [b5_0, loopStep, setT, List.set, exSs, exS, evE, evEs, Res.bind, List.getElem?_cons_zero, List.getElem?_cons_succ, notin_kv, m, decide_false, Bool.not_false, ok?, len_kv, put_kv m (show seen.length + 1 < 16777216 by omega), ix_kv (show x ∈ seen ++ [x] by simp), ix, id, app_1 (show (vI found).length < 16777216 by rw [vI_len]; omega)]
      rw [vI_app, vI_cons, vI_nil, List.append_assoc, vI_app] at ih
      rw [vI_app, vI_cons]
      exact ih
theorem c5 (w d : Nat) {l : List Int} (hl : l.length < 1000) (h : Hip) : callF (P w) (d + 1) 5 [.tup (vI l)] h = .ok (.tup (vI (nam l))) h := by
  obtain ⟨p', e⟩ := named_loop w d (.tup (vI l)) l [] [] 0 ⟨vI l, none⟩ none (fun _ _ => rfl) (by simpa using hl) (by simpa using hl)
  refine call_pure (fd := d5) rfl rfl (by simp [refsVs, refsV]) (ρ := [some (.tup (vI l)), p', some (.ref 0), some (.ref 1)]) (g := [.dct (kvD 0 (seenG [] l)), .lst (vI (nam l))]) ?_ (by simp [refsV]) h
  show exSs (P w) (callF (P w) d) b5 [some (.tup (vI l)), none, none, none] [] = _
  have s1 : exS (P w) (callF (P w) d) (.asg (.tp [2, 3]) (.tup (.cons (.dct [] .nil) (.cons (.lst .nil) .nil)))) [some (.tup (vI l)), none, none, none] [] = .ok (.nx, [some (.tup (vI l)), none, some (.ref 0), some (.ref 1)]) [.dct (kvD 0 []), .lst (vI [])] := by
    simp [exS, evE, evEs, alloc, fits, SZ, setT, setTs, ok?, kvD]
  have s2 : exS (P w) (callF (P w) d) (.loop (.nm 1) (.seq (.var 0)) b5_0) [some (.tup (vI l)), none, some (.ref 0), some (.ref 1)] [.dct (kvD 0 []), .lst (vI [])] = .ok (.nx, [some (.tup (vI l)), p', some (.ref 0), some (.ref 1)]) [.dct (kvD 0 (seenG [] l)), .lst (vI (nam l))] := by
    simp only [exS, evI, evE, Res.bind, List.getElem?_cons_zero, walkOf, ok?, id]
    exact e
  unfold b5
  rw [x_cons s1, x_cons s2]
  exact x_ret (e_1 (by simp only [evE, List.getElem?_cons_zero, List.getElem?_cons_succ]; rfl) (tup_ref rfl))
end K97

set_option maxRecDepth 100000
namespace K97
open Z Fig
/-! first_of -/
theorem ix_lst {l : List Int} {x : Int} {r : Hip} (h0 : 0 ≤ x) (h1 : x < (l.length : Int)) : ixOp (.ref 0) (.int x) (.lst (vI l) :: r) = some (.int (l.getD x.toNat 0)) := by
  show (nIx (vI l).length x).bind ((vI l)[·]?) = _
  have e : nIx (vI l).length x = some x.toNat := by
    unfold nIx
    rw [if_pos h0, vI_len, if_pos h1]
  rw [e, Option.bind_some, vI_get, getD_some (by omega)]
  rfl
theorem first_loop (w : Nat) (cf : CF) {l : List Int} (lk : LK l) : ∀ (k : Nat) (x : Int), 0 ≤ x → x < (l.length : Int) → x < (k : Int) →
    whL (testB (evE (P w) cf b7_0)) (exSs (P w) cf b7_1) k [some (.ref 0), some (.int x)] [.lst (vI l)] = .ok (.nx, [some (.ref 0), some (.int (fo l x))]) [.lst (vI l)]
  | 0, x, h0, _, h2 => by omega
  | k + 1, x, h0, h1, h2 => by
    have a := lk.at h0 h1
    have t : testB (evE (P w) cf b7_0) [some (.ref 0), some (.int x)] [.lst (vI l)] = .ok (!decide (l.getD x.toNat 0 = x)) [.lst (vI l)] := by
      simp only [testB, b7_0, evE, Res.bind, List.getElem?_cons_zero, List.getElem?_cons_succ, ix_lst h0 h1, ok?, id, cmpOp, eq_int, Option.map_some]
    unfold whL
    rw [t, fo_step lk h0 h1]
    by_cases e : l.getD x.toNat 0 = x
    · rw [decide_eq_true e, if_pos e]
      rfl
    · rw [decide_eq_false e, if_neg e]
      have b : exSs (P w) cf b7_1 [some (.ref 0), some (.int x)] [.lst (vI l)] = .ok (.nx, [some (.ref 0), some (.int (l.getD x.toNat 0))]) [.lst (vI l)] := by
        simp only [b7_1, exSs, exS, evE, Res.bind, List.getElem?_cons_zero, List.getElem?_cons_succ, ix_lst h0 h1, ok?, id, setT, List.set]
      have ih := first_loop w cf lk k (l.getD x.toNat 0) a.1 (by omega) (by omega)
      simp only [Bool.not_false, b]
      exact ih
theorem c7 (d a : Nat) {l : List Int} (lk : LK l) (hl : l.length ≤ 100) {x : Int} (h0 : 0 ≤ x) (h1 : x < (l.length : Int)) {h : Hip} (ha : h[a]? = some (.lst (vI l))) : callF (P 100) (d + 1) 7 [.ref a, .int x] h = .ok (.int (fo l x)) h := by
  have := call_one (P := P 100) (d := d) (f := 7) (a := a) (fd := d7) (vs := [.int x]) (v := .int (fo l x)) (o := .lst (vI l)) (o' := .lst (vI l)) (ρ := [some (.ref 0), some (.int (fo l x))]) (g := []) (h := h) rfl rfl (by simp [refsVs, refsV]) ha (by simp only [refsO, vI_refs])
    (by simp only [mapO, vI_map, Option.map_some]) (.inl (by
      show exSs (P 100) (callF (P 100) d) b7 [some (.ref 0), some (.int x)] [.lst (vI l)] = _
      have s1 : exS (P 100) (callF (P 100) d) (.whil b7_0 b7_1) [some (.ref 0), some (.int x)] [.lst (vI l)] = .ok (.nx, [some (.ref 0), some (.int (fo l x))]) [.lst (vI l)] := by
        simp only [exS]
        exact first_loop 100 _ lk 100 x h0 h1 (by omega)
      unfold b7
      rw [x_cons s1]
      exact x_ret (by simp only [evE, List.getElem?_cons_zero, List.getElem?_cons_succ]))) (by simp [refsV]) (by simp only [refsO, vI_refs]) (by simp only [mapO, vI_map, Option.map_some])
  rw [set_self ha] at this
  exact this
end K97

set_option maxRecDepth 100000
namespace K97
open Z Fig
/-! linked -/
theorem put_lst {l : List Int} {x y : Int} {r : Hip} (h0 : 0 ≤ x) (h1 : x < (l.length : Int)) : putIx (.ref 0) (.int x) (.int y) (.lst (vI l) :: r) = .ok () (.lst (vI (l.set x.toNat y)) :: r) := by
  have e : nIx (vI l).length x = some x.toNat := by
    unfold nIx
    rw [if_pos h0, vI_len, if_pos h1]
  show (match nIx (vI l).length x with
      | some j => Res.ok () ((.lst (vI l) :: r : Hip).set 0 (.lst ((vI l).set j (.int y))))
      | none => .bad) = _
  rw [e]
  show Res.ok () (.lst ((vI l).set x.toNat (.int y)) :: r) = _
  rw [vI_set]
theorem max_op (a b : Int) (h : Hip) : biOp .max2 [.int a, .int b] h = .ok (.int (max a b)) h := by
  show Res.ok (Val.int (if b > a then b else a)) h = _
  congr 2
  rcases Int.le_total a b with q | q
  · rw [Int.max_eq_right q]; split <;> omega
  · rw [Int.max_eq_left q]; split <;> omega
theorem min_op (a b : Int) (h : Hip) : biOp .min2 [.int a, .int b] h = .ok (.int (min a b)) h := by
  show Res.ok (Val.int (if b < a then b else a)) h = _
  congr 2
  rcases Int.le_total a b with q | q
  · rw [Int.min_eq_left q]; split <;> omega
  · rw [Int.min_eq_right q]; split <;> omega
theorem c8 (d a : Nat) {l : List Int} (lk : LK l) (hl : l.length ≤ 100) {x y : Int} (h0 : 0 ≤ x) (h1 : x < (l.length : Int)) (h2 : 0 ≤ y) (h3 : y < (l.length : Int)) {h : Hip} (ha : h[a]? = some (.lst (vI l))) :
    callF (P 100) (d + 2) 8 [.ref a, .int x, .int y] h = .ok .non (h.set a (.lst (vI (l.set (max (fo l x) (fo l y)).toNat (min (fo l x) (fo l y)))))) := by
  have fx := fo_ok lk h0 h1
  have fy := fo_ok lk h2 h3
  have m0 : 0 ≤ max (fo l x) (fo l y) := by omega
  have m1 : max (fo l x) (fo l y) < (l.length : Int) := by omega
  refine call_one (fd := d8) (vs := [.int x, .int y]) (o := .lst (vI l)) (ρ := [some (.ref 0), some (.int x), some (.int y), some (.int (fo l x)), some (.int (fo l y))]) (g := []) rfl rfl (by simp [refsVs, refsV]) ha (by simp only [refsO, vI_refs])
    (by simp only [mapO, vI_map, Option.map_some]) (.inr ⟨?_, rfl⟩) (by simp [refsV]) (by simp only [refsO, vI_refs]) (by simp only [mapO, vI_map, Option.map_some])
  show exSs (P 100) (callF (P 100) (d + 1)) b8 [some (.ref 0), some (.int x), some (.int y), none, none] [.lst (vI l)] = _
  have c1 : callF (P 100) (d + 1) 7 [.ref 0, .int x] [.lst (vI l)] = .ok (.int (fo l x)) [.lst (vI l)] := c7 d 0 lk hl h0 h1 rfl
  have c2 : callF (P 100) (d + 1) 7 [.ref 0, .int y] [.lst (vI l)] = .ok (.int (fo l y)) [.lst (vI l)] := c7 d 0 lk hl h2 h3 rfl
  have f2 : fits 2 = true := fits_of (by omega)
  unfold b8
  rw [x_cons (ρ' := [some (.ref 0), some (.int x), some (.int y), some (.int (fo l x)), some (.int (fo l y))]) (h1 := [.lst (vI l)]) (by
    simp only [exS, evE, evEs, Res.bind, List.getElem?_cons_zero, List.getElem?_cons_succ, c1, c2, List.length_cons, List.length_nil, Nat.zero_add, f2, if_pos, setT, setTs, List.set, ok?])]
  rw [x_cons (ρ' := [some (.ref 0), some (.int x), some (.int y), some (.int (fo l x)), some (.int (fo l y))]) (h1 := [.lst (vI (l.set (max (fo l x) (fo l y)).toNat (min (fo l x) (fo l y))))]) (by
    simp only [exS, evE, evEs, Res.bind, List.getElem?_cons_zero, List.getElem?_cons_succ, max_op, min_op, put_lst m0 m1])]
  simp only [exSs]
end K97

set_option maxRecDepth 100000
namespace K97
open Z Fig
/-! named_in of a list -/
section
variable {x : Int} {seen : List Int} {o : Ob} {r : Hip}
theorem notin_kv1 : cmpOp .notin (.int x) (.ref 1) (o :: .dct (kvD 0 seen) :: r) = some (!decide (x ∈ seen)) := by
  show (inOp (o :: .dct (kvD 0 seen) :: r) (.int x) (.ref 1)).map (!·) = _
  have : inOp (o :: .dct (kvD 0 seen) :: r) (.int x) (.ref 1) = some (decide (x ∈ seen)) := by
    have := in_kv (x := x) (seen := seen) (r := r)
    exact this
  rw [this]
  rfl
theorem ix_kv1 (m : x ∈ seen) : ixOp (.ref 1) (.int x) (o :: .dct (kvD 0 seen) :: r) = some (.int (seen.idxOf x : Nat)) := by
  have := ix_kv (x := x) (seen := seen) (r := r) m
  exact this
theorem len_kv1 : biOp .len [.ref 1] (o :: .dct (kvD 0 seen) :: r) = .ok (.int (seen.length : Nat)) (o :: .dct (kvD 0 seen) :: r) := by
  show ok? (some (kvD 0 seen).length) (fun n => Val.int (n : Int)) _ = _
  rw [kvD_len]
  rfl
theorem put_kv1 (m : x ∉ seen) (hs : seen.length + 1 < 16777216) : putIx (.ref 1) (.int x) (.int (seen.length : Nat)) (o :: .dct (kvD 0 seen) :: r) = .ok () (o :: .dct (kvD 0 (seen ++ [x])) :: r) := by
  show (if (((kvD 0 seen).all (fun p => isKey1 p.1) && isKey1 (.int x) || (kvD 0 seen).all (fun p => isKeyT p.1) && isKeyT (.int x)) && fits ((kvD 0 seen).length + 1)) = true then Res.ok () ((o :: (.dct (kvD 0 seen) : Ob) :: r).set 1 (.dct (dput (.int x) (.int (seen.length : Nat)) (kvD 0 seen)))) else .bad) = _
  rw [kv_ok, kvD_len, fits_of hs, kvD_put m]
  rfl
theorem app_2 {o o' : Ob} {xs : List Val} {v : Val} (hs : xs.length < 16777216) : bmOp .append (.ref 2) [v] [o, o', .lst xs] = .ok .non [o, o', .lst (xs ++ [v])] := by
  show (if fits xs.length = true then Res.ok Val.non ([o, o', .lst xs].set 2 (.lst (xs ++ [v]))) else .bad) = _
  rw [fits_of hs]
  rfl
end
theorem named_loop1 (w d : Nat) (mk : Val) (o : Ob) (it : Wk) (hat : ∀ j o' o'', it.at j [o, o', o''] = true) : ∀ (xs seen found : List Int) (i : Nat) (p : Option Val), seen.length + xs.length < 1000 → found.length + xs.length < 1000 →
    ∃ p', forL it (loopStep (.nm 1) (exSs (P w) (callF (P w) d) b5_0)) i (vI xs) [some mk, p, some (.ref 1), some (.ref 2)] [o, .dct (kvD 0 seen), .lst (vI found)] =
      .ok (.nx, [some mk, p', some (.ref 1), some (.ref 2)]) [o, .dct (kvD 0 (seenG seen xs)), .lst (vI (found ++ namG seen xs))]
  | [], seen, found, i, p, _, _ => by
    refine ⟨p, ?_⟩
    simp [namG, seenG, forL, hat]
  | x :: xs, seen, found, i, p, s1, s2 => by
    have e1 : namG seen (x :: xs) = if x ∈ seen then (seen.idxOf x : Int) :: namG seen xs else (seen.length : Int) :: namG (seen ++ [x]) xs := rfl
    have e3 : seenG seen (x :: xs) = if x ∈ seen then seenG seen xs else seenG (seen ++ [x]) xs := rfl
    rw [List.length_cons] at s1 s2
    have ft : fits found.length = true := fits_of (by omega)
    have fs : fits (seen.length + 1) = true := fits_of (by omega)
    rw [e1, e3]
    by_cases m : x ∈ seen
    · rw [if_pos m, if_pos m]
      obtain ⟨p', ih⟩ := named_loop1 w d mk o it hat xs seen (found ++ [(seen.idxOf x : Int)]) (i + 1) (some (.int x)) (by omega) (by rw [List.length_append, List.length_singleton]; omega)
      refine ⟨p', ?_⟩
      rw [vI_cons]
      unfold forL
      rw [if_pos (hat _ _ _)]
      simp only [b5_0, loopStep, setT, List.set, exSs, exS, evE, evEs, Res.bind, List.getElem?_cons_zero, List.getElem?_cons_succ, notin_kv1, m, decide_true, Bool.not_true, ok?, ix_kv1 m, id, app_2 (show (vI found).length < 16777216 by rw [vI_len]; omega)]
      rw [vI_app, vI_cons, vI_nil, List.append_assoc, vI_app] at ih
      rw [vI_app, vI_cons]
      exact ih
    · rw [if_neg m, if_neg m]
      obtain ⟨p', ih⟩ := named_loop1 w d mk o it hat xs (seen ++ [x]) (found ++ [(seen.length : Int)]) (i + 1) (some (.int x)) (by rw [List.length_append, List.length_singleton]; omega) (by rw [List.length_append, List.length_singleton]; omega)
      refine ⟨p', ?_⟩
      rw [vI_cons]
      unfold forL
      rw [if_pos (hat _ _ _)]
      have ix : (seen ++ [x]).idxOf x = seen.length := by
        rw [List.idxOf_append, if_neg m]; simp
      simp only [b5_0, loopStep, setT, List.set, exSs, exS, evE, evEs, Res.bind, List.getElem?_cons_zero, List.getElem?_cons_succ, notin_kv1, m, decide_false, Bool.not_false, ok?, len_kv1, put_kv1 m (show seen.length + 1 < 16777216 by omega), ix_kv1 (show x ∈ seen ++ [x] by simp), ix, id, app_2 (show (vI found).length < 16777216 by rw [vI_len]; omega)]
      rw [vI_app, vI_cons, vI_nil, List.append_assoc, vI_app] at ih
      rw [vI_app, vI_cons]
      exact ih
theorem c5r (w d a : Nat) {l : List Int} (hl : l.length < 1000) {h : Hip} (ha : h[a]? = some (.lst (vI l))) : callF (P w) (d + 1) 5 [.ref a] h = .ok (.tup (vI (nam l))) h := by
  obtain ⟨p', e⟩ := named_loop1 w d (.ref 0) (.lst (vI l)) ⟨vI l, some 0⟩ (fun j o' o'' => at_src rfl j) l [] [] 0 none (by simpa using hl) (by simpa using hl)
  have := call_one (P := P w) (d := d) (f := 5) (a := a) (fd := d5) (vs := []) (v := .tup (vI (nam l))) (o := .lst (vI l)) (o' := .lst (vI l)) (ρ := [some (.ref 0), p', some (.ref 1), some (.ref 2)]) (g := [.dct (kvD 0 (seenG [] l)), .lst (vI (nam l))]) (h := h) rfl rfl (by simp [refsVs]) ha (by simp only [refsO, vI_refs])
    (by simp only [mapO, vI_map, Option.map_some]) (.inl (by
      show exSs (P w) (callF (P w) d) b5 [some (.ref 0), none, none, none] [.lst (vI l)] = _
      have s1 : exS (P w) (callF (P w) d) (.asg (.tp [2, 3]) (.tup (.cons (.dct [] .nil) (.cons (.lst .nil) .nil)))) [some (.ref 0), none, none, none] [.lst (vI l)] = .ok (.nx, [some (.ref 0), none, some (.ref 1), some (.ref 2)]) [.lst (vI l), .dct (kvD 0 []), .lst (vI [])] := by
        simp [exS, evE, evEs, alloc, fits, SZ, setT, setTs, ok?, kvD]
      have s2 : exS (P w) (callF (P w) d) (.loop (.nm 1) (.seq (.var 0)) b5_0) [some (.ref 0), none, some (.ref 1), some (.ref 2)] [.lst (vI l), .dct (kvD 0 []), .lst (vI [])] = .ok (.nx, [some (.ref 0), p', some (.ref 1), some (.ref 2)]) [.lst (vI l), .dct (kvD 0 (seenG [] l)), .lst (vI (nam l))] := by
        simp only [exS, evI, evE, Res.bind, List.getElem?_cons_zero, walkOf, ok?, id]
        exact e
      unfold b5
      rw [x_cons s1, x_cons s2]
      exact x_ret (e_1 (by simp only [evE, List.getElem?_cons_zero, List.getElem?_cons_succ]; rfl) (tup_ref rfl)))) (by simp only [refsV, vI_refs]) (by simp only [refsO, vI_refs]) (by simp only [mapO, vI_map, Option.map_some])
  rw [set_self ha] at this
  exact this
end K97

set_option maxRecDepth 100000
namespace K97
open Z Fig
/-! upon_in -/
theorem insI_len (x : Int) : ∀ l : List Int, (insI x l).length = l.length + 1
  | [] => rfl
  | y :: r => by
    unfold insI
    split
    · rfl
    · rw [List.length_cons, insI_len x r]; rfl
theorem sortI_len : ∀ l : List Int, (sortI l).length = l.length
  | [] => rfl
  | x :: r => by show (insI x (sortI r)).length = _; rw [insI_len, sortI_len r]; rfl
theorem insI_mem (x y : Int) : ∀ l : List Int, y ∈ insI x l ↔ y = x ∨ y ∈ l
  | [] => by simp [insI]
  | z :: r => by
    unfold insI
    split
    · rw [List.mem_cons]
    · rw [List.mem_cons, insI_mem x y r, List.mem_cons]
      exact ⟨fun h => h.elim (fun e => .inr (.inl e)) fun h => h.elim .inl fun m => .inr (.inr m), fun h => h.elim (fun e => .inr (.inl e)) fun h => h.elim .inl fun m => .inr (.inr m)⟩
theorem insI_nodup {x : Int} : ∀ {l : List Int}, x ∉ l → l.Nodup → (insI x l).Nodup
  | [], _, _ => by simp [insI]
  | z :: r, h, nd => by
    have nd' := List.nodup_cons.mp nd
    unfold insI
    split
    · exact List.nodup_cons.mpr ⟨h, nd⟩
    · refine List.nodup_cons.mpr ⟨fun m => ?_, insI_nodup (fun m => h (List.mem_cons_of_mem _ m)) nd'.2⟩
      rcases (insI_mem x z r).mp m with e | m
      · exact h (e ▸ List.mem_cons_self)
      · exact nd'.1 m
theorem sI_mem (y : Int) : ∀ l : List Int, y ∈ sortI l ↔ y ∈ l
  | [] => Iff.rfl
  | x :: r => by
    show y ∈ insI x (sortI r) ↔ _
    rw [insI_mem, sI_mem y r, List.mem_cons]
theorem sI_nodup : ∀ {l : List Int}, l.Nodup → (sortI l).Nodup
  | [], _ => List.nodup_nil
  | x :: r, h => by
    have h := List.nodup_cons.mp h
    exact insI_nodup (fun m => h.1 ((sI_mem x r).mp m)) (sI_nodup h.2)
theorem addTo_mem (x y : Int) (acc : List Int) : y ∈ addTo x acc ↔ y ∈ acc ∨ y = x := by
  unfold addTo
  split
  · rename_i h
    exact ⟨.inl, fun q => q.elim id fun e => e ▸ h⟩
  · simp
theorem addTo_nodup {x : Int} {acc : List Int} (h : acc.Nodup) : (addTo x acc).Nodup := by
  unfold addTo
  split
  · exact h
  · rename_i m
    rw [List.nodup_append]
    refine ⟨h, by simp, fun a ha b hb e => ?_⟩
    rw [List.mem_singleton.mp hb] at e
    exact m (e ▸ ha)
theorem addTo_len (x : Int) (acc : List Int) : (addTo x acc).length ≤ acc.length + 1 := by
  unfold addTo; split
  · omega
  · rw [List.length_append, List.length_singleton]; omega
theorem scL_eq {k : Wk} {f : Val → Hip → Res (Option Val)} {g : Int → Int} {h : Hip} (hat : ∀ i, k.at i h = true) :
    ∀ (xs acc : List Int) (i : Nat), (∀ x ∈ xs, f (.int x) h = .ok (some (.int (g x))) h) → acc.length + xs.length < 4000 → acc.Nodup → ∃ out, scL k f i (vI xs) acc h = .ok out h ∧ out.length ≤ acc.length + xs.length ∧ out.Nodup ∧ ∀ y, y ∈ out ↔ y ∈ acc ∨ y ∈ xs.map g
  | [], acc, i, _, _, nd => ⟨acc, by rw [vI_nil]; unfold scL; rw [if_pos (hat i)], Nat.le_refl _, nd, fun y => by simp⟩
  | x :: xs, acc, i, st, sz, nd => by
    rw [List.length_cons] at sz
    have le := addTo_len (g x) acc
    obtain ⟨out, e, l, nd2, hm⟩ := scL_eq hat xs (addTo (g x) acc) (i + 1) (fun z m => st z (List.mem_cons_of_mem _ m)) (by omega) (addTo_nodup nd)
    refine ⟨out, ?_, by rw [List.length_cons]; omega, nd2, fun y => ?_⟩
    · rw [vI_cons]
      unfold scL
      rw [if_pos (hat i), st x List.mem_cons_self]
      simp only [if_pos (show acc.length < 4000 by omega)]
      exact e
    · rw [hm, addTo_mem, List.map_cons, List.mem_cons]
      exact ⟨fun h => h.elim (fun h => h.elim .inl fun e => .inr (.inl e)) fun m => .inr (.inr m), fun h => h.elim (fun m => .inl (.inl m)) fun h => h.elim (fun e => .inl (.inr e)) .inr⟩
theorem among_ref {h : Hip} {a : Nat} {l : List Int} (e : h[a]? = some (.lst (vI l))) (x : Int) : amongOp h (.int x) (.ref a) = some ((vI l).any fun z => peq z (.int x)) := by
  unfold amongOp
  simp only [deep_int, deep_ref e, items?, shallow_int, shallow_lv, Bool.and_self, if_pos]
theorem notin_ref {h : Hip} {a : Nat} {l : List Int} (e : h[a]? = some (.lst (vI l))) (x : Int) : cmpOp .notin (.int x) (.ref a) h = some (!((vI l).any fun z => peq z (.int x))) := by
  show (inOp h (.int x) (.ref a)).map (!·) = _
  unfold inOp
  simp only [e, among_ref e, Option.map_some]
theorem nIx_nat {n i : Nat} (h : i < n) : nIx n (i : Int) = some i := by
  unfold nIx
  rw [if_pos (by omega), if_pos (by omega), Int.toNat_natCast]
theorem ix_tup {l : List Int} {i : Nat} (hi : i < l.length) (h : Hip) : ixOp (.tup (vI l)) (.int (i : Int)) h = some (.int (l.getD i 0)) := by
  show (nIx (vI l).length (i : Int)).bind ((vI l)[·]?) = _
  rw [vI_len, nIx_nat hi, Option.bind_some, vI_get, getD_some hi]
  rfl
section
variable {n : Nat} {near far : List Int}
theorem lab_at (f1 : Fg n near) (f2 : Fg n far) {i : Nat} (hi : i < 4 * n) : 0 ≤ (lab n near far).getD i 0 ∧ (lab n near far).getD i 0 < 4 * (n : Int) := by
  have l1 := f1.len
  have l2 := f2.len
  unfold lab
  rw [List.getD_eq_getElem?_getD]
  by_cases h : i < 2 * n
  · rw [List.getElem?_append_left (by omega), List.getElem?_eq_getElem (by omega)]
    have := f1.lt (List.getElem_mem (show i < near.length by omega))
    exact ⟨this.1, by show near[i] < _; omega⟩
  · rw [List.getElem?_append_right (by omega), List.getElem?_map, l1, List.getElem?_eq_getElem (show i - 2 * n < far.length by omega)]
    have := f2.lt (List.getElem_mem (show i - 2 * n < far.length by omega))
    show 0 ≤ 2 * (n : Int) + far[i - 2 * n] ∧ 2 * (n : Int) + far[i - 2 * n] < 4 * (n : Int)
    omega
theorem lab_near (f1 : Fg n near) {i : Nat} (hi : i < 2 * n) : (lab n near far).getD i 0 = near.getD i 0 := by
  unfold lab
  rw [List.getD_eq_getElem?_getD, List.getElem?_append_left (by rw [f1.len]; exact hi), ← List.getD_eq_getElem?_getD]
theorem lab_far (f1 : Fg n near) (f2 : Fg n far) {i : Nat} (hi : i < 2 * n) : (lab n near far).getD (2 * n + i) 0 = 2 * (n : Int) + far.getD i 0 := by
  unfold lab
  have l2 := f2.len
  rw [List.getD_eq_getElem?_getD, List.getElem?_append_right (by rw [f1.len]; omega), f1.len, Nat.add_sub_cancel_left, List.getElem?_map, getD_some (show i < far.length by omega)]
  rfl
theorem upon_loop (d : Nat) (hn : n ≤ 5) (f1 : Fg n near) (f2 : Fg n far) (it : Wk) (hat : ∀ j h, it.at j h = true) (q6 q7 q8 q9 : Option Val) : ∀ (m k i : Nat) (p : Option Val), k + m = n →
    ∃ p', forL it (loopStep (.nm 5) (exSs (P 100) (callF (P 100) (d + 2)) b9_0)) i (vI ((List.range' k m).map fun i : Nat => (i : Int)))
      [some (.int n), some (.tup (vI near)), some (.tup (vI far)), some (.int (2 * (n : Int))), some (.ref 0), p, q6, q7, q8, q9] [.lst (vI (lks n (lab n near far) k))] =
      .ok (.nx, [some (.int n), some (.tup (vI near)), some (.tup (vI far)), some (.int (2 * (n : Int))), some (.ref 0), p', q6, q7, q8, q9]) [.lst (vI (lks n (lab n near far) n))]
  | 0, k, i, p, hk => by
    have : k = n := by omega
    subst this
    exact ⟨p, by show forL it _ i [] _ _ = _; unfold forL; rw [if_pos (hat _ _)]⟩
  | m + 1, k, i, p, hk => by
    obtain ⟨p', ih⟩ := upon_loop d hn f1 f2 it hat q6 q7 q8 q9 m (k + 1) (i + 1) (some (.int k)) (by omega)
    refine ⟨p', ?_⟩
    have ll := lks_len n (lab n near far) k
    have lk := (lks_rho (fun i hi => lab_at f1 f2 hi) k (by omega)).1
    have l1 := f1.len
    have l2 := f2.len
    have a := lab_at (near := near) (far := far) f1 f2 (show n + k < 4 * n by omega)
    have b := lab_at (near := near) (far := far) f1 f2 (show 2 * n + k < 4 * n by omega)
    have ea := lab_near (n := n) (near := near) (far := far) f1 (show n + k < 2 * n by omega)
    have eb := lab_far (n := n) (near := near) (far := far) f1 f2 (show k < 2 * n by omega)
    rw [List.range'_succ, List.map_cons, vI_cons]
    unfold forL
    rw [if_pos (hat _ _)]
    have call : callF (P 100) (d + 2) 8 [.ref 0, .int ((lab n near far).getD (n + k) 0), .int ((lab n near far).getD (2 * n + k) 0)] [.lst (vI (lks n (lab n near far) k))] = .ok .non [.lst (vI (lks n (lab n near far) (k + 1)))] :=
      c8 d 0 lk (by omega) a.1 (by omega) b.1 (by omega) rfl
    rw [ea, eb] at call
    have c : (n : Int) + (k : Int) = ((n + k : Nat) : Int) := by omega
    simp only [b9_0, loopStep, setT, List.set, exSs, exS, evE, evEs, Res.bind, List.getElem?_cons_zero, List.getElem?_cons_succ, binOp, c, ix_tup (l := near) (show n + k < near.length by omega), ix_tup (l := far) (show k < far.length by omega), ok?, id, call]
    exact ih
end
end K97

set_option maxRecDepth 100000
namespace K97
open Z Fig
theorem take_mem {l : List Int} {n : Nat} {x : Int} (h : x ∈ l.take n) : x ∈ l := List.mem_of_mem_take h
theorem drop_mem {l : List Int} {n : Nat} {x : Int} (h : x ∈ l.drop n) : x ∈ l := List.mem_of_mem_drop h
theorem slHi_tup {l : List Int} {n : Nat} (hn : n ≤ l.length) (h : Hip) : slOp (.tup (vI l)) none (some (.int n)) h = .ok (.tup (vI (l.take n))) h := by
  show Res.ok (Val.tup (cut (vI l) none (some (n : Int)))) _ = _
  rw [cut_lo hn]
theorem slLo_tup {l : List Int} {n : Nat} (hn : n ≤ l.length) (h : Hip) : slOp (.tup (vI l)) (some (.int n)) none h = .ok (.tup (vI (l.drop n))) h := by
  show Res.ok (Val.tup (cut (vI l) (some (n : Int)) none)) _ = _
  rw [cut_hi hn]
theorem comp_call1 {P : Pg} {cf : CF} {f i j : Nat} {ρ : Env} {own : List Nat} {v u : Val} {a : Val} {h : Hip} (h1 : ((wipes ρ own).set j (some v))[i]? = some (some a)) (h2 : ((wipes ρ own).set j (some v))[j]? = some (some v)) (hc : cf f [a, v] h = .ok u h) :
    compStep (.nm j) (wipes ρ own) (evC P cf .no) (evE P cf (.call f (.cons (.var i) (.cons (.var j) .nil)))) v h = .ok (some u) h := by
  simp only [compStep, setT, evC, evE, evEs, Res.bind, h1, h2, if_pos, hc]
/-- the set's part -/
theorem c9f (w : Nat) (cf : CF) {n : Nat} {near far L O1 O2 : List Int} (hn : n ≤ 5) (ln : near.length = 2 * n) (b1 : ∀ x ∈ near, 0 ≤ x ∧ x < 2 * (n : Int)) (lO : (O1 ++ O2).length < 100) (p' : Option Val)
    (hcf : ∀ (x : Int), 0 ≤ x → x < 4 * (n : Int) → cf 7 [.ref 0, .int x] [.lst (vI L), .lst (vI (O1 ++ O2)), .lst (vI O2)] = .ok (.int (fo L x)) [.lst (vI L), .lst (vI (O1 ++ O2)), .lst (vI O2)])
    (h5 : ∀ h : Hip, h[1]? = some (.lst (vI (O1 ++ O2))) → cf 5 [.ref 1] h = .ok (.tup (vI (nam (O1 ++ O2)))) h) : ∃ (g : Hip) (ρ : Env),
    exSs (P w) cf (dropS 5 b9) [some (.int n), some (.tup (vI near)), some (.tup (vI far)), some (.int (2 * (n : Int))), some (.ref 0), p', some (.ref 1), none, none, none] [.lst (vI L), .lst (vI (O1 ++ O2)), .lst (vI O2)] = .ok (.ret (.tup [.tup (vI (nam (O1 ++ O2))), .int (dn (((near.drop n).map (fo L)).filter fun x => !decide (x ∈ O1 ++ O2)) : Nat)]), ρ) g := by
  obtain ⟨bt, eb, lb, nd, hb⟩ := scL_eq (k := ⟨vI (near.drop n), none⟩) (f := compStep (.nm 8) (wipes [some (.int n), some (.tup (vI near)), some (.tup (vI far)), some (.int (2 * (n : Int))), some (.ref 0), p', some (.ref 1), none, none, none] [8]) (evC (P w) cf b9_5) (evE (P w) cf b9_6)) (g := fo L) (h := [.lst (vI L), .lst (vI (O1 ++ O2)), .lst (vI O2)]) (fun _ => rfl) (near.drop n) [] 0 (fun x m => by
      have := b1 x (drop_mem m)
      exact comp_call1 rfl rfl (hcf x (by omega) (by omega))) (by rw [List.length_drop, List.length_nil]; omega) List.nodup_nil
  rw [List.length_drop, List.length_nil] at lb
  let φ : Val → Option Val := fun v => match v with
    | .int x => if (!decide (x ∈ O1 ++ O2)) = true then some (.int x) else none
    | _ => none
  have efin := lcL_map (k := ⟨vI (sortI bt), some 4⟩) (f := compStep (.nm 9) (wipes [some (.int n), some (.tup (vI near)), some (.tup (vI far)), some (.int (2 * (n : Int))), some (.ref 0), p', some (.ref 1), some (.ref 3), none, none] [9]) (evC (P w) cf b9_7) (evE (P w) cf b9_8)) (φ := φ) (h := [.lst (vI L), .lst (vI (O1 ++ O2)), .lst (vI O2), .set bt, .lst (vI (sortI bt))]) (fun i => at_src rfl i) (vI (sortI bt)) [] 0 (fun v m => by
      obtain ⟨x, hx, rfl⟩ := List.mem_map.mp m
      have nr := notin_I (h := [.lst (vI L), .lst (vI (O1 ++ O2)), .lst (vI O2), .set bt, .lst (vI (sortI bt))]) (a := 1) (l := O1 ++ O2) rfl x
      simp only [compStep, setT, wipes, List.set, b9_7, b9_8, evC, evE, evEs, Res.bind, List.getElem?_cons_zero, List.getElem?_cons_succ, nr, ok?, φ]
      cases (!decide (x ∈ O1 ++ O2)) <;> rfl) (by rw [vI_len, sortI_len]; rw [List.length_nil]; omega)
  rw [List.nil_append, fm_filter (p := fun x => !decide (x ∈ O1 ++ O2)) (fun x => rfl)] at efin
  have ek : ((sortI bt).filter fun x => !decide (x ∈ O1 ++ O2)).length = dn (((near.drop n).map (fo L)).filter fun x => !decide (x ∈ O1 ++ O2)) := by
    rw [← dn_nodup ((sI_nodup nd).filter _)]
    refine dn_same fun y => ?_
    rw [List.mem_filter, List.mem_filter, sI_mem, hb]
    simp
  refine ⟨[.lst (vI L), .lst (vI (O1 ++ O2)), .lst (vI O2), .set bt, .lst (vI (sortI bt)), .lst (vI ((sortI bt).filter fun x => !decide (x ∈ O1 ++ O2)))], [some (.int n), some (.tup (vI near)), some (.tup (vI far)), some (.int (2 * (n : Int))), some (.ref 0), p', some (.ref 1), some (.ref 3), none, none], ?_⟩
  rw [← ek]
  have so : biOp .sorted [.ref 3] [.lst (vI L), .lst (vI (O1 ++ O2)), .lst (vI O2), .set bt] = .ok (.ref 4) [.lst (vI L), .lst (vI (O1 ++ O2)), .lst (vI O2), .set bt, .lst (vI (sortI bt))] := by
    have : bt.length < 64 := by omega
    show (match (if bt.length < 64 then some bt else none) with
      | some is => alloc (.lst ((sortI is).map .int)) [.lst (vI L), .lst (vI (O1 ++ O2)), .lst (vI O2), .set bt]
      | none => .bad) = _
    rw [if_pos this]
    rfl
  refine x_at rfl (s_asg (ec_sc (i_seq (e_slLo (e_var rfl) (e_var rfl) (slLo_tup (by omega) _)) rfl) eb) rfl) rfl ?_
  refine x_ret (e_tup (es_cons (ec_call (es_cons (e_var rfl) es_nil) (h5 _ rfl)) (es_cons (e_1 (ec_lc (i_seq (e_1 (e_var rfl) so) rfl) efin) (len_I rfl)) es_nil)) (fits_of (by simp)))
end K97

set_option maxRecDepth 100000
namespace K97
open Z Fig
theorem c9 (d : Nat) {n : Nat} {near far : List Int} (hn : n ≤ 5) (f1 : Fg n near) (f2 : Fg n far) (h : Hip) : callF (P 100) (d + 3) 9 [.int n, .tup (vI near), .tup (vI far)] h = .ok (.tup [.tup (vI (lup n near far)), .int (left n near far : Nat)]) h := by
  have l1 := f1.len
  have l2 := f2.len
  have hρ := fun x (h0 : 0 ≤ x) (h1 : x < 4 * (n : Int)) => (lks_rho (fun i hi => lab_at f1 f2 hi) n (Nat.le_refl n)).2 x h0 h1
  have lkn := (lks_rho (fun i hi => lab_at f1 f2 hi) n (Nat.le_refl n)).1
  have ll := lks_len n (lab n near far) n
  have hm1 : mulOk 2 (n : Int) = true := mulOk_l (by decide)
  have hm2 : mulOk 2 (2 * (n : Int)) = true := mulOk_l (by decide)
  have hcf := fun (x : Int) (h0 : 0 ≤ x) (h1 : x < 4 * (n : Int)) (g : Hip) (hg : g[0]? = some (.lst (vI (lks n (lab n near far) n)))) => c7 (d + 1) 0 lkn (by omega) h0 (by rw [ll]; omega) hg
  generalize eL : lks n (lab n near far) n = L at hcf hρ
  generalize eR : rho n (lab n near far) n = R at hρ
  have b1 := fun x (m : x ∈ near) => f1.lt m
  have b2 := fun x (m : x ∈ far) => f2.lt m
  have lO1 : ((near.take n).map (fo L)).length ≤ 5 := by rw [List.length_map, List.length_take]; omega
  have lO2 : ((far.drop n).map fun x => fo L (2 * (n : Int) + x)).length ≤ 5 := by rw [List.length_map, List.length_drop]; omega
  have eO : nam ((near.take n).map (fo L) ++ (far.drop n).map fun x => fo L (2 * (n : Int) + x)) = lup n near far := by
    rw [← uup_lup f1 f2]
    unfold uup
    rw [eR]
    congr 2
    · exact List.map_congr_left fun x m => hρ x (b1 x (take_mem m)).1 (by have := b1 x (take_mem m); omega)
    · exact List.map_congr_left fun x m => by
        have := b2 x (drop_mem m)
        exact hρ (2 * (n : Int) + x) (by omega) (by omega)
  have eL2 : dn (((near.drop n).map (fo L)).filter fun x => !decide (x ∈ (near.take n).map (fo L) ++ (far.drop n).map fun x => fo L (2 * (n : Int) + x))) = left n near far := by
    rw [← left_links f1 f2, eR]
    unfold lfl
    have k1 : kept n ((lab n near far).map R) = (near.take n).map (fo L) ++ (far.drop n).map fun x => fo L (2 * (n : Int) + x) := by
      have u := uup_list f1 f2
      rw [eR] at u
      rw [← u]
      congr 1
      · exact List.map_congr_left fun x m => (hρ x (b1 x (take_mem m)).1 (by have := b1 x (take_mem m); omega)).symm
      · exact List.map_congr_left fun x m => by
          have := b2 x (drop_mem m)
          exact (hρ (2 * (n : Int) + x) (by omega) (by omega)).symm
    have k2 : (((lab n near far).map R).drop n).take n = (near.drop n).map (fo L) := by
      unfold lab
      rw [← List.map_drop, ← List.map_take, List.drop_append_of_le_length (by omega), List.take_append_of_le_length (by rw [List.length_drop]; omega), List.take_of_length_le (by rw [List.length_drop]; omega)]
      exact List.map_congr_left fun x m => (hρ x (b1 x (drop_mem m)).1 (by have := b1 x (drop_mem m); omega)).symm
    rw [k1, k2]
  obtain ⟨p', el⟩ := upon_loop (near := near) (far := far) d hn f1 f2 ⟨vI ((List.range' 0 n).map fun i : Nat => (i : Int)), none⟩ (fun _ _ => rfl) none none none none n 0 0 none (by omega)
  rw [eL] at el
  have el1 := lc_ints (k := ⟨vI (near.take n), none⟩) (f := compStep (.nm 8) (wipes [some (.int n), some (.tup (vI near)), some (.tup (vI far)), some (.int (2 * (n : Int))), some (.ref 0), p', none, none, none, none] [8]) (evC (P 100) (callF (P 100) (d + 2)) b9_1) (evE (P 100) (callF (P 100) (d + 2)) b9_2)) (g := fo L) (h := [.lst (vI L)]) (fun _ => rfl) (near.take n) 0 (fun x m => by
      have := b1 x (take_mem m)
      exact comp_call1 rfl rfl (hcf x (by omega) (by omega) _ rfl)) (by rw [List.length_take]; omega)
  have el2 := lc_ints (k := ⟨vI (far.drop n), none⟩) (f := compStep (.nm 8) (wipes [some (.int n), some (.tup (vI near)), some (.tup (vI far)), some (.int (2 * (n : Int))), some (.ref 0), p', some (.ref 1), none, none, none] [8]) (evC (P 100) (callF (P 100) (d + 2)) b9_3) (evE (P 100) (callF (P 100) (d + 2)) b9_4)) (g := fun x => fo L (2 * (n : Int) + x)) (h := [.lst (vI L), .lst (vI ((near.take n).map (fo L)))]) (fun _ => rfl) (far.drop n) 0 (fun x m => by
      have := b2 x (drop_mem m)
      have c := hcf (2 * (n : Int) + x) (by omega) (by omega) [.lst (vI L), .lst (vI ((near.take n).map (fo L)))] rfl
      simp only [compStep, setT, wipes, List.set, b9_3, b9_4, evC, evE, evEs, Res.bind, List.getElem?_cons_zero, List.getElem?_cons_succ, if_pos, binOp, c]) (by rw [List.length_drop]; omega)
  generalize (near.take n).map (fo L) = O1 at *
  generalize ((far.drop n).map fun x => fo L (2 * (n : Int) + x)) = O2 at *
  obtain ⟨g, ρ, ef⟩ := c9f (far := far) (near := near) (O1 := O1) (O2 := O2) 100 (callF (P 100) (d + 2)) hn l1 b1 (by rw [List.length_append]; omega) p' (fun x h0 h1 => hcf x h0 h1 _ rfl) (fun h hh => c5r 100 (d + 1) 1 (by rw [List.length_append]; omega) hh)
  rw [eO, eL2] at ef
  refine call_pure (fd := d9) rfl rfl (by simp [refsVs, refsV]) (ρ := ρ) (g := g) ?_ (by simp [refsV, refsVs]) h
  show exSs (P 100) (callF (P 100) (d + 2)) (dropS 0 b9) [some (.int n), some (.tup (vI near)), some (.tup (vI far)), none, none, none, none, none, none, none] [] = _
  refine x_at rfl (s_asg (e_2 e_con (e_var rfl) (mul_int hm1)) rfl) rfl ?_
  have e4 : (2 : Int) * (2 * (n : Int)) = ((4 * n : Nat) : Int) := by omega
  refine x_at rfl (s_asg (e_lr (n := 4 * n) (by omega) (by rw [← e4]; exact e_2 e_con (e_var rfl) (mul_int hm2))) rfl) rfl ?_
  have r := range_nat (n := n) (by omega)
  rw [List.range_eq_range'] at r
  refine x_at rfl (s_loop (i_range (es_cons (e_var rfl) es_nil) r) el) rfl ?_
  refine x_at rfl (s_asg (ec_lc (i_seq (e_slHi (e_var rfl) (e_var rfl) (slHi_tup (by omega) _)) rfl) el1) rfl) rfl ?_
  have ag : augOp .add (.ref 1) (.ref 2) [.lst (vI L), .lst (vI O1), .lst (vI O2)] = .ok (.ref 1) [.lst (vI L), .lst (vI (O1 ++ O2)), .lst (vI O2)] := by
    show (if 1 ≠ 2 ∧ fits ((vI O1).length + (vI O2).length) = true then Res.ok (Val.ref 1) ([.lst (vI L), .lst (vI O1), .lst (vI O2)].set 1 (.lst (vI O1 ++ vI O2))) else .bad) = _
    rw [if_pos ⟨by decide, fits_of (by rw [vI_len, vI_len]; omega)⟩, vI_app]
    rfl
  refine x_at rfl (s_aug rfl (ec_lc (i_seq (e_slLo (e_var rfl) (e_var rfl) (slLo_tup (by omega) _)) rfl) el2) ag) rfl ?_
  exact ef
end K97

set_option maxRecDepth 100000
namespace K97
open Z Fig
/-! Powers -/
def lsl (n : Nat) (fig : List Int) (k : Nat) : List Int := (List.range k).map fun i => (left n (pw n fig i) fig : Int)
theorem lsl_succ (n : Nat) (fig : List Int) (k : Nat) : lsl n fig (k + 1) = lsl n fig k ++ [(left n (pw n fig k) fig : Int)] := by
  unfold lsl; rw [List.range_succ, List.map_append]; rfl
theorem lsl_len (n : Nat) (fig : List Int) (k : Nat) : (lsl n fig k).length = k := by simp [lsl]
/-- the object, its powers, what they leave over -/
def PH (n : Nat) (fig : List Int) (o : Val) (L : List (List Int)) (ls : List Int) : Hip :=
  [.ins 1 [(0, .int n), (1, .tup (vI fig)), (2, .ref 1), (3, .ref 2), (4, o)], .lst (vT L), .lst (vI ls)]
theorem isN_non (h : Hip) : cmpOp .isN .non .non h = some true := rfl
theorem isN_int (i : Int) (h : Hip) : cmpOp .isN (.int i) .non h = some false := by
  show (if Val.non = Val.non then some (decide (Val.int i = .non)) else none) = _
  rw [if_pos rfl, decide_eq_false (fun e => nomatch e)]
theorem pow_loop (d : Nat) {n m f : Nat} {fig : List Int} (hn : n ≤ 5) (fg : Fg n fig) (r : Rd n fig m f) : ∀ (t k : Nat) (ls : List Int) (p q : Option Val) (fuel : Nat), k + t = m → 0 < t → ls = lsl n fig k → t < fuel →
    ∃ (p' q' : Option Val) (ls' : List Int), ls' = lsl n fig m ∧ whL (testB (evE (P 100) (callF (P 100) (d + 3)) b10_0)) (exSs (P 100) (callF (P 100) (d + 3)) b10_1) fuel [some (.ref 0), some (.int n), some (.tup (vI fig)), p, q] (PH n fig .non (pws n fig (k + 1)) ls) =
      .ok (.nx, [some (.ref 0), some (.int n), some (.tup (vI fig)), p', q']) (PH n fig (.int f) (pws n fig m) ls')
  | 0, _, _, _, _, _, _, h, _, _ => by omega
  | t + 1, k, ls, p, q, 0, _, _, _, h => by omega
  | t + 1, k, ls, p, q, fuel + 1, hk, _, hl, hf => by
    have hm := r.le
    have hll : ls.length = k := by rw [hl, lsl_len]
    obtain ⟨v, hv⟩ : ∃ v, left n (pw n fig k) fig = v := ⟨_, rfl⟩
    have hl2 : ls ++ [(v : Int)] = lsl n fig (k + 1) := by rw [lsl_succ, ← hl, hv]
    have e9 := c9 d hn (pw_fg fg k) fg (PH n fig .non (pws n fig (k + 1)) ls)
    rw [hv] at e9
    have e9 : callF (P 100) (d + 3) 9 [.int n, .tup (vI (pw n fig k)), .tup (vI fig)] (PH n fig .non (pws n fig (k + 1)) ls) = .ok (.tup [.tup (vI (pw n fig (k + 1))), .int v]) (PH n fig .non (pws n fig (k + 1)) ls) := e9
    have tst : testB (evE (P 100) (callF (P 100) (d + 3)) b10_0) [some (.ref 0), some (.int n), some (.tup (vI fig)), p, q] (PH n fig .non (pws n fig (k + 1)) ls) = .ok true (PH n fig .non (pws n fig (k + 1)) ls) :=
      test_of (e_cmp (e_fld (e_var rfl) rfl rfl rfl) e_con (isN_non _))
    have lastp : ixOp (.ref 1) (.int (-1)) (PH n fig .non (pws n fig (k + 1)) ls) = some (.tup (vI (pw n fig k))) := by
      refine ix_last (xs := vT (pws n fig k)) ?_
      rw [pws_succ]
      show some (Ob.lst (vT (pws n fig k ++ [pw n fig k]))) = _
      rw [vT_app]; rfl
    have isin := isin_T (h := PH n fig .non (pws n fig (k + 1)) (ls ++ [(v : Int)])) (a := 1) rfl (pw n fig (k + 1))
    by_cases c : k + 1 = m
    · have mem : pw n fig (k + 1) ∈ pws n fig (k + 1) := pws_mem.mpr ⟨f, by have := r.lt; omega, by rw [c, r.eq]⟩
      rw [decide_eq_true mem] at isin
      have ind := index_T (h := PH n fig .non (pws n fig (k + 1)) (ls ++ [(v : Int)])) (a := 1) rfl mem
      rw [c, r.idx] at ind
      rw [c] at e9 isin
      have body : exSs (P 100) (callF (P 100) (d + 3)) b10_1 [some (.ref 0), some (.int n), some (.tup (vI fig)), p, q] (PH n fig .non (pws n fig (k + 1)) ls) = .ok (.nx, [some (.ref 0), some (.int n), some (.tup (vI fig)), some (.tup (vI (pw n fig m))), some (.int v)]) (PH n fig (.int f) (pws n fig m) (ls ++ [(v : Int)])) := by
        rw [c] at lastp ⊢
        refine (x_cons (s_asg (ec_call (es_cons (e_var rfl) (es_cons (e_ix (e_fld (e_var rfl) rfl rfl rfl) (e_neg e_con) lastp) (es_cons (e_var rfl) es_nil))) e9) rfl)).trans ?_
        refine (x_cons (s_expr (e_bm (e_fld (e_var rfl) rfl rfl rfl) rfl (e_var rfl) (append_I rfl (by omega) _)))).trans ?_
        refine x_last (s_ifT (e_cmp (h1 := PH n fig .non (pws n fig m) (ls ++ [(v : Int)])) (e_var rfl) (e_fld (e_var rfl) rfl rfl rfl) isin) ?_)
        exact (x_last (s_fld (e_bm (e_fld (e_var rfl) rfl rfl rfl) rfl (e_var rfl) ind) (e_var rfl) rfl rfl rfl)).trans rfl
      refine ⟨some (.tup (vI (pw n fig m))), some (.int v), ls ++ [(v : Int)], by rw [hl2, c], ?_⟩
      rw [wh_step tst body]
      match fuel, hf with
      | 0, hf => omega
      | fuel + 1, _ => exact wh_end (test_of (e_cmp (e_fld (e_var rfl) rfl rfl rfl) e_con (isN_int _ _)))
    · have mem : pw n fig (k + 1) ∉ pws n fig (k + 1) := fun h => by
        obtain ⟨i, hi, e⟩ := pws_mem.mp h
        exact r.ne i (k + 1) hi (by omega) e
      rw [decide_eq_false mem] at isin
      have body : exSs (P 100) (callF (P 100) (d + 3)) b10_1 [some (.ref 0), some (.int n), some (.tup (vI fig)), p, q] (PH n fig .non (pws n fig (k + 1)) ls) = .ok (.nx, [some (.ref 0), some (.int n), some (.tup (vI fig)), some (.tup (vI (pw n fig (k + 1)))), some (.int v)]) (PH n fig .non (pws n fig (k + 1 + 1)) (ls ++ [(v : Int)])) := by
        refine (x_cons (s_asg (ec_call (es_cons (e_var rfl) (es_cons (e_ix (e_fld (e_var rfl) rfl rfl rfl) (e_neg e_con) lastp) (es_cons (e_var rfl) es_nil))) e9) rfl)).trans ?_
        refine (x_cons (s_expr (e_bm (e_fld (e_var rfl) rfl rfl rfl) rfl (e_var rfl) (append_I rfl (by omega) _)))).trans ?_
        refine x_last (s_ifF (e_cmp (h1 := PH n fig .non (pws n fig (k + 1)) (ls ++ [(v : Int)])) (e_var rfl) (e_fld (e_var rfl) rfl rfl rfl) isin) ?_)
        rw [pws_succ n fig (k + 1)]
        exact (x_last (s_expr (e_bm (e_fld (e_var rfl) rfl rfl rfl) rfl (e_var rfl) (append_T rfl (by rw [pws_len]; omega) _)))).trans rfl
      obtain ⟨p', q', ls', hl', ih⟩ := pow_loop d hn fg r t (k + 1) (ls ++ [(v : Int)]) (some (.tup (vI (pw n fig (k + 1))))) (some (.int v)) fuel (by omega) (by omega) hl2 (by omega)
      refine ⟨p', q', ls', hl', ?_⟩
      rw [wh_step tst body]
      exact ih
theorem c10r (d : Nat) {n m f : Nat} {fig : List Int} (hn : n ≤ 5) (fg : Fg n fig) (r : Rd n fig m f) : ∃ (ρ : Env) (ls : List Int), ls = lsl n fig m ∧ exSs (P 100) (callF (P 100) (d + 3)) (dropS 0 b10) [some (.ref 0), some (.int n), some (.tup (vI fig)), none, none] [.ins 1 []] = .ok (.nx, ρ) (PH n fig (.int f) (pws n fig m) ls) := by
  have hm := r.le
  obtain ⟨p', q', ls', hl', e⟩ := pow_loop d hn fg r m 0 [] none none 100 (by omega) (by have := r.lt; omega) rfl (by omega)
  refine ⟨[some (.ref 0), some (.int n), some (.tup (vI fig)), p', q'], ls', hl', ?_⟩
  refine x_at rfl (s_fld (e_var rfl) (e_var rfl) rfl rfl rfl) rfl ?_
  refine x_at rfl (s_fld (e_var rfl) (e_var rfl) rfl rfl rfl) rfl ?_
  refine x_at rfl (s_fld (e_lst (es_cons (ec_call (es_cons (e_var rfl) es_nil) (c6 100 (d + 2) (by omega) _)) es_nil) rfl) (e_var rfl) rfl rfl rfl) rfl ?_
  refine x_at rfl (s_fld (e_lst es_nil rfl) (e_var rfl) rfl rfl rfl) rfl ?_
  refine x_at rfl (s_fld e_con (e_var rfl) rfl rfl rfl) rfl ?_
  refine x_last ?_
  show exS (P 100) _ (.whil b10_0 b10_1) _ _ = _
  simp only [exS]
  exact e
end K97

set_option maxRecDepth 100000
namespace K97
open Z Fig
section
variable {n : Nat} {fig : List Int} {L : List (List Int)} {ls : List Int} {m f : Nat}
theorem ph_refs (x : Int) : refsO (.ins 1 [(0, .int n), (1, .tup (vI fig)), (2, .ref 1), (3, .ref 2), (4, .int x)]) = [1, 2] := by
  simp only [refsO, List.map, refsVs, refsV, vI_refs, List.nil_append, List.append_nil, List.cons_append]
theorem ph_map {f : Nat → Option Nat} (h1 : f 1 = some 1) (h2 : f 2 = some 2) (x : Int) : mapO f (.ins 1 [(0, .int n), (1, .tup (vI fig)), (2, .ref 1), (3, .ref 2), (4, .int x)]) = some (.ins 1 [(0, .int n), (1, .tup (vI fig)), (2, .ref 1), (3, .ref 2), (4, .int x)]) := by
  simp only [mapO, List.map, mapVs, mapV, vI_map, h1, h2, Option.map_some, List.zip_cons_cons, List.zip_nil_right]
theorem ph_reach (x : Int) {q acc : List Nat} (g : Hip) : reach (.ins 1 [(0, .int n), (1, .tup (vI fig)), (2, .ref 1), (3, .ref 2), (4, .int x)] :: .lst (vT L) :: .lst (vI ls) :: g) RF [1, 2] [] = [1, 2] := by
  rw [reach_cons RF_pos]
  simp only [List.contains_nil, if_neg Bool.false_ne_true, List.getElem?_cons_succ, List.getElem?_cons_zero, refsO, vT_refs, List.append_nil, List.nil_append]
  rw [reach_cons (by decide), if_neg (by decide)]
  simp only [List.getElem?_cons_succ, List.getElem?_cons_zero, refsO, vI_refs, List.append_nil]
  rw [reach_nil (by decide)]
  rfl
end
theorem c10 (d : Nat) {n m f : Nat} {fig : List Int} (hn : n ≤ 5) (fg : Fg n fig) (r : Rd n fig m f) : ∃ ls : List Int, ls = lsl n fig m ∧ callF (P 100) (d + 4) 10 [.ref 0, .int n, .tup (vI fig)] [.ins 1 []] = .ok .non (PH n fig (.int f) (pws n fig m) ls) := by
  obtain ⟨ρ, ls, hl, e⟩ := c10r d hn fg r
  refine ⟨ls, hl, ?_⟩
  have e1 : enterC [.ref 0, .int n, .tup (vI fig)] [.ins 1 []] = some ([0], [.ref 0, .int n, .tup (vI fig)], [.ins 1 []]) := by
    unfold enterC
    have r : refsVs [.ref 0, .int n, .tup (vI fig)] = [0] := by simp only [refsVs, refsV, vI_refs]; rfl
    rw [r]
    have rc : reach [.ins 1 []] RF [0] [] = [0] := by
      rw [reach_cons RF_pos, if_neg (by decide)]
      simp only [List.getElem?_cons_zero, refsO, List.map_nil, refsVs, List.append_nil, List.nil_append]
      rw [reach_nil (by decide)]
    have p0 : Z.place [0] 0 = some 0 := rfl
    simp only [rc, mapVs, mapV, p0, Option.map_some, vI_map, takeO, List.getElem?_cons_zero, Option.bind_some, mapO, List.map_nil, List.zip_nil_right]
  have e3 : leaveC [0] .non (PH n fig (.int f) (pws n fig m) ls) [.ins 1 []] = .ok .non (PH n fig (.int f) (pws n fig m) ls) := by
    unfold leaveC PH
    have tk : refsAll ([Ob.ins 1 [(0, .int n), (1, .tup (vI fig)), (2, .ref 1), (3, .ref 2), (4, .int (f : Int))], .lst (vT (pws n fig m)), .lst (vI ls)].take 1) = [1, 2] := by
      show refsO _ ++ [] = _
      rw [ph_refs]; rfl
    have fl : [1, 2].filter (fun i => decide (1 ≤ i)) = [1, 2] := by decide
    simp only [refsV, List.length_cons, List.length_nil, Nat.zero_add, tk, List.nil_append, ph_reach (q := []) (acc := []), fl, mapV, show List.range 1 = [0] from rfl]
    simp only [takeO, List.getElem?_cons_succ, List.getElem?_cons_zero, Option.bind_some, ph_map (f := backTo [0] [1, 2] 1) rfl rfl, lst_map (vT_refs _), lst_map (vI_refs _), putO, List.set_cons_zero]
    rfl
  exact call_of (fd := d10) rfl rfl e1 (run_nx (ρ := ρ) e) e3
theorem c15 (d : Nat) {n m f : Nat} {fig : List Int} (hn1 : 1 ≤ n) (hn : n ≤ 5) (fg : Fg n fig) (r : Rd n fig m f) : ∃ ls : List Int, ls = lsl n fig m ∧ callF (P 100) (d + 5) 15 [.int n, .tup (vI fig)] [] = .ok (.ref 0) (PH n fig (.int f) (pws n fig m) ls) := by
  obtain ⟨ls, hl, e⟩ := c10 d hn fg r
  refine ⟨ls, hl, ?_⟩
  have e1 : enterC [.int n, .tup (vI fig)] [] = some ([], [.int n, .tup (vI fig)], []) := by
    unfold enterC
    have r : refsVs [.int n, .tup (vI fig)] = [] := by simp only [refsVs, refsV, vI_refs]; rfl
    simp only [r, reach_nil RF_pos, mapVs, mapV, vI_map, Option.map_some, takeO]
  have b : exSs (P 100) (callF (P 100) (d + 4)) (dropS 0 b15) [some (.int n), some (.tup (vI fig))] [] = .ok (.ret (.ref 0), [some (.int n), some (.tup (vI fig))]) (PH n fig (.int f) (pws n fig m) ls) := by
    refine x_at rfl (s_expr (ec_call (es_cons (ec_call (es_cons (e_var rfl) es_nil) (c3 100 (d + 1) n (by omega) (by omega) _)) (es_cons (e_var rfl) es_nil)) (c4 100 (d + 1) fg (by omega) _))) rfl ?_
    exact x_ret (ec_make (c := 1) rfl (es_cons (e_var rfl) (es_cons (e_var rfl) es_nil)) e)
  have e3 : leaveC [] (.ref 0) (PH n fig (.int f) (pws n fig m) ls) [] = .ok (.ref 0) (PH n fig (.int f) (pws n fig m) ls) := by
    unfold leaveC
    have rc : reach (PH n fig (.int f) (pws n fig m) ls) RF [0] [] = [0, 1, 2] := reach3 (by decide) (by decide) (by decide) rfl rfl rfl (ph_refs _) (by simp only [refsO, vT_refs]) (by simp only [refsO, vI_refs])
    have fl : [0, 1, 2].filter (fun i => decide (0 ≤ i)) = [0, 1, 2] := by decide
    simp only [refsV, List.length_nil, List.take_zero, refsAll, List.append_nil, rc, fl, mapV, show backTo [] [0, 1, 2] 0 0 = some 0 from rfl, Option.map_some, show List.range 0 = [] from rfl]
    simp only [takeO, PH, List.getElem?_cons_succ, List.getElem?_cons_zero, Option.bind_some, ph_map (f := backTo [] [0, 1, 2] 0) rfl rfl, lst_map (vT_refs _), lst_map (vI_refs _), putO, List.nil_append]
  exact call_of (fd := d15) rfl rfl e1 (run_ret (ρ := [some (.int n), some (.tup (vI fig))]) b) e3
section
variable {n m f : Nat} {fig : List Int} {ls : List Int}
theorem ph_call (d K : Nat) {fd : FD} {vs : List Val} {v : Val} {ρ : Env} (hf : (P 100).fn K = some fd) (hl : vs.length + 1 = fd.np) (hv : refsVs vs = []) (nv : refsV v = [])
    (hr : exSs (P 100) (callF (P 100) d) fd.body (some (.ref 0) :: vs.map some ++ List.replicate (fd.ns - fd.np) none) (PH n fig (.int f) (pws n fig m) ls) = .ok (.ret v, ρ) (PH n fig (.int f) (pws n fig m) ls)) :
    callF (P 100) (d + 1) K (.ref 0 :: vs) (PH n fig (.int f) (pws n fig m) ls) = .ok v (PH n fig (.int f) (pws n fig m) ls) :=
  call3 (a := 0) (b := 1) (c := 2) (g := []) hf hl hv (by decide) (by decide) (by decide) rfl rfl rfl (ph_refs _) (vT_refs _) (vI_refs _) (ph_map (f := Z.place [0, 1, 2]) rfl rfl _) hr nv (ph_refs _) (vT_refs _) (vI_refs _) (ph_map (f := backTo [0, 1, 2] [] 3) rfl rfl _)
theorem c11 (d : Nat) : callF (P 100) (d + 1) 11 [.ref 0] (PH n fig (.int f) (pws n fig m) ls) = .ok (.int ((m : Int) - f)) (PH n fig (.int f) (pws n fig m) ls) := by
  refine ph_call d 11 (fd := d11) (vs := []) rfl rfl rfl rfl (ρ := [some (.ref 0)]) ?_
  have l := len_at (h := PH n fig (.int f) (pws n fig m) ls) (a := 1) rfl
  rw [vT_len, pws_len] at l
  exact x_ret (e_2 (e_1 (e_fld (e_var rfl) rfl rfl rfl) l) (e_fld (e_var rfl) rfl rfl rfl) sub_int)
theorem c12 (d : Nat) (hfm : f < m) (k : Nat) : callF (P 100) (d + 2) 12 [.ref 0, .int k] (PH n fig (.int f) (pws n fig m) ls) = .ok (.int (spot m f k : Nat)) (PH n fig (.int f) (pws n fig m) ls) := by
  refine ph_call (d + 1) 12 (fd := d12) (vs := [.int k]) rfl rfl rfl rfl (ρ := [some (.ref 0), some (.int k)]) ?_
  have l := len_at (h := PH n fig (.int f) (pws n fig m) ls) (a := 1) rfl
  rw [vT_len, pws_len] at l
  have lt : cmpOp .lt (.int k) (.int m) (PH n fig (.int f) (pws n fig m) ls) = some (decide ((k : Int) < m)) := rfl
  show exSs (P 100) (callF (P 100) (d + 1)) (dropS 0 b12) [some (.ref 0), some (.int k)] _ = _
  unfold spot
  by_cases c : k < m
  · rw [decide_eq_true (by omega)] at lt
    rw [if_pos c]
    exact x_if (s_ifT (e_cmp (e_var rfl) (e_1 (e_fld (e_var rfl) rfl rfl rfl) l) lt) (x_ret (e_var rfl)))
  · rw [decide_eq_false (by omega)] at lt
    rw [if_neg c]
    refine x_at rfl (s_ifF (e_cmp (e_var rfl) (e_1 (e_fld (e_var rfl) rfl rfl rfl) l) lt) x_nil) rfl ?_
    have e : (f : Int) + ((k : Int) - f) % ((m : Int) - f) = ((f + (k - f) % (m - f) : Nat) : Int) := by
      rw [show (k : Int) - f = ((k - f : Nat) : Int) by omega, show (m : Int) - f = ((m - f : Nat) : Int) by omega]
      rw [Int.natCast_add, Int.natCast_emod]
    rw [← e]
    exact x_ret (e_2 (e_fld (e_var rfl) rfl rfl rfl) (e_2 (e_2 (e_var rfl) (e_fld (e_var rfl) rfl rfl rfl) sub_int) (ec_meth (e_var rfl) rfl rfl rfl es_nil (c11 d)) (mod_int (by omega))) add_int)
theorem c13 (d : Nat) (r : Rd n fig m f) (k : Nat) : callF (P 100) (d + 3) 13 [.ref 0, .int k] (PH n fig (.int f) (pws n fig m) ls) = .ok (.tup (vI (pw n fig k))) (PH n fig (.int f) (pws n fig m) ls) := by
  refine ph_call (d + 2) 13 (fd := d13) (vs := [.int k]) rfl rfl rfl (by simp only [refsV, vI_refs]) (ρ := [some (.ref 0), some (.int k)]) ?_
  have g : (vT (pws n fig m))[spot m f k]? = some (.tup (vI (pw n fig k))) := by
    rw [vT_get, pws_get (r.spot_lt k), r.at_spot k]; rfl
  exact x_ret (e_ix (e_fld (e_var rfl) rfl rfl rfl) (ec_meth (e_var rfl) rfl rfl rfl (es_cons (e_var rfl) es_nil) (c12 d r.lt k)) (ix_at rfl g))
end
theorem c14 (d : Nat) (k : Nat) (hk : k ≤ 1000000000) (h : Hip) : callF (P 100) (d + 3) 14 [.int k] h = .ok (.int k) h := by
  refine call_pure (fd := d14) rfl rfl (by simp [refsVs, refsV]) (ρ := [some (.int k)]) (g := []) ?_ (by simp [refsV]) h
  have e := c1 100 d (k : Int) 0 1000000000 []
  rw [decide_eq_true (show (0 : Int) ≤ (k : Int) by omega), decide_eq_true (show (k : Int) ≤ 1000000000 by omega)] at e
  show exSs (P 100) (callF (P 100) (d + 2)) (dropS 0 b14) [some (.int k)] [] = _
  refine x_at rfl (s_ifF (e_not (ec_call (es_cons (e_var rfl) (es_cons e_con (es_cons e_con es_nil))) e)) x_nil) rfl ?_
  exact x_ret (e_var rfl)
section
variable {n m f : Nat} {fig : List Int}
end
end K97

set_option maxRecDepth 100000
namespace K97
open Z Fig
section
variable {n m f : Nat} {fig : List Int}
theorem c17 (d : Nat) (hn1 : 1 ≤ n) (hn : n ≤ 5) (fg : Fg n fig) (r : Rd n fig m f) (h : Hip) : callF (P 100) (d + 6) 17 [.int n, .tup (vI fig)] h = .ok (.tup [.int f, .int ((m : Int) - f)]) h := by
  obtain ⟨ls, hl, e⟩ := c15 d hn1 hn fg r
  refine call_pure (fd := d17) rfl rfl (by simp [refsVs, refsV]) (ρ := [some (.int n), some (.tup (vI fig)), some (.ref 0)]) (g := PH n fig (.int f) (pws n fig m) ls) ?_ (by simp [refsV, refsVs]) h
  show exSs (P 100) (callF (P 100) (d + 5)) (dropS 0 b17) [some (.int n), some (.tup (vI fig)), none] [] = _
  refine x_at rfl (s_asg (ec_call (es_cons (e_var rfl) (es_cons (e_var rfl) es_nil)) e) rfl) rfl ?_
  exact x_ret (e_tup (es_cons (e_fld (e_var rfl) rfl rfl rfl) (es_cons (ec_meth (e_var rfl) rfl rfl rfl es_nil (c11 (d + 4))) es_nil)) rfl)
end
end K97

set_option maxRecDepth 100000
namespace K97
open Z Fig
/-! drawing -/
def mixF (c n : Int) : Int := (((c * (1 + 2 * n) * 48271) % 2147483647 + 7919 * n * n + 104729 * n) * 69621) % 2147483629 / 7
theorem c19 (w d : Nat) (c n : Int) (h0 : 0 ≤ n) (h1 : n < 1000000000000) (h : Hip) : callF (P w) (d + 1) 19 [.int c, .int n] h = .ok (.int (mixF c n)) h := by
  refine call_pure (fd := d19) rfl rfl (by simp [refsVs, refsV]) (ρ := [some (.int c), some (.int n), some (.int ((c * (1 + 2 * n) * 48271) % 2147483647 + 7919 * n * n + 104729 * n))]) (g := []) ?_ (by simp [refsV]) h
  show exSs (P w) (callF (P w) d) (dropS 0 b19) [some (.int c), some (.int n), none] [] = _
  refine x_at rfl (s_asg (e_2 (e_2 (e_2 (e_1 (e_2 (e_2 (e_var rfl) (e_2 e_con (e_2 e_con (e_var rfl) (mul_int (mulOk_l (by decide)))) add_int) (mul_int (mulOk_r (by omega)))) e_con (mul_int (mulOk_r (by decide)))) (int1_int _ _)) e_con (mod_int (by decide))) (e_2 (e_2 e_con (e_var rfl) (mul_int (mulOk_l (by decide)))) (e_var rfl) (mul_int (mulOk_r (by omega)))) add_int) (e_2 e_con (e_var rfl) (mul_int (mulOk_l (by decide)))) add_int) rfl) rfl ?_
  exact x_ret (e_2 (e_2 (e_1 (e_2 (e_var rfl) e_con (mul_int (mulOk_r (by decide)))) (int1_int _ _)) e_con (mod_int (by decide))) e_con (fdiv_int (by decide) (by decide)))
theorem c21b (w d : Nat) {cs gs : List Int} {s : Nat} (lim : Int) (h0 : 0 < lim) (h1 : lim < 1073741824) (hs : s < 100000000000) (hc : cs.length = 64) : ∃ (k : Int) (gs' : List Int) (ρ : Env) (g : Hip), 0 ≤ k ∧ k < lim ∧
    exSs (P w) (callF (P w) (d + 1)) (dropS 0 b21) [some (.ref 0), some (.int lim), none, none, none, none] [stO 1 2 s, .lst (vI cs), .lst (vI gs)] = .ok (.ret (.int k), ρ) (stO 1 2 ((s + 1 : Nat) : Int) :: .lst (vI cs) :: .lst (vI gs') :: g) := by
  have es : (s : Int) + 1 = ((s + 1 : Nat) : Int) := by omega
  -- the way without great numbers
  have rest : ∀ (ρ : Env) (r1 : ρ[0]? = some (some (.ref 0))) (r2 : ρ[1]? = some (some (.int lim))) (r3 : ρ[2]? = some (some (.int s))) (lρ : ρ.length = 6) (g : Hip), ∃ (k : Int) (ρ' : Env), 0 ≤ k ∧ k < lim ∧
      exSs (P w) (callF (P w) (d + 1)) (dropS 3 b21) ρ (stO 1 2 ((s + 1 : Nat) : Int) :: .lst (vI cs) :: .lst (vI gs) :: g) = .ok (.ret (.int k), ρ') (stO 1 2 ((s + 1 : Nat) : Int) :: .lst (vI cs) :: .lst (vI gs) :: g) := by
    intro ρ r1 r2 r3 lρ g
    have r1' : (ρ.set 3 (some (.ref 1)))[0]? = some (some (.ref 0)) := by rw [List.getElem?_set_ne (by omega)]; exact r1
    have r2' : (ρ.set 3 (some (.ref 1)))[1]? = some (some (.int lim)) := by rw [List.getElem?_set_ne (by omega)]; exact r2
    have r3' : (ρ.set 3 (some (.ref 1)))[2]? = some (some (.int s)) := by rw [List.getElem?_set_ne (by omega)]; exact r3
    have r4' : (ρ.set 3 (some (.ref 1)))[3]? = some (some (.ref 1)) := List.getElem?_set_self (by omega)
    refine ⟨mixF (mixF (cs.getD ((s : Int) % 64).toNat 0 + 31 * ((s : Int) / 64)) s) (s + 7) % lim, ρ.set 3 (some (.ref 1)), Int.emod_nonneg _ (by omega), Int.emod_lt_of_pos _ h0, ?_⟩
    refine x_at rfl (s_asg (e_ix (e_var r1) e_con (st_C rfl)) rfl) rfl ?_
    refine x_ret (e_2 (e_1 (ec_call (es_cons (ec_call (es_cons (e_2 (e_ix (e_var r4') (e_2 (e_1 (e_var r3') (int1_int _ _)) e_con (mod_int (by decide))) (ix_lstA (l := cs) rfl (by omega) (by omega))) (e_2 e_con (e_2 (e_var r3') e_con (fdiv_int (by decide) (by decide))) (mul_int (mulOk_l (by decide)))) add_int) (es_cons (e_var r3') es_nil)) (c19 w d _ _ (by omega) (by omega) _)) (es_cons (e_2 (e_var r3') e_con add_int) es_nil)) (c19 w d _ _ (by omega) (by omega) _)) (int1_int _ _)) (e_var r2') (mod_int h0))
  have start : ∀ r, exSs (P w) (callF (P w) (d + 1)) (dropS 2 b21) [some (.ref 0), some (.int lim), some (.int s), none, none, none] [stO 1 2 ((s + 1 : Nat) : Int), .lst (vI cs), .lst (vI gs)] = r → exSs (P w) (callF (P w) (d + 1)) (dropS 0 b21) [some (.ref 0), some (.int lim), none, none, none, none] [stO 1 2 s, .lst (vI cs), .lst (vI gs)] = r := by
    intro r hr
    refine x_at rfl (s_asg (e_ix (e_var rfl) e_con (st_S rfl)) rfl) rfl ?_
    refine x_at rfl (s_setIx (e_2 (e_var rfl) e_con add_int) (e_var rfl) e_con (st_putS rfl _)) rfl ?_
    rw [es]
    exact hr
  have ne := ne_lst (h := [stO 1 2 ((s + 1 : Nat) : Int), .lst (vI cs), .lst (vI gs), .lst (vI [])]) (a := 2) (b := 3) (l := gs) (m := []) rfl rfl
  by_cases hg : gs = []
  · subst hg
    obtain ⟨k, ρ', k0, k1, e⟩ := rest [some (.ref 0), some (.int lim), some (.int s), none, none, none] rfl rfl rfl rfl [.lst (vI [])]
    refine ⟨k, [], ρ', [.lst (vI [])], k0, k1, start _ ?_⟩
    refine x_at rfl (s_ifF (e_cmp (e_ix (e_var rfl) e_con (st_G rfl)) (e_lst es_nil rfl) ne) x_nil) rfl ?_
    exact e
  · rw [decide_eq_false hg] at ne
    have lg : 0 < (gs.length : Int) := by
      have := List.length_pos_iff.mpr hg
      omega
    have m0 := Int.emod_nonneg (s : Int) (show (gs.length : Int) ≠ 0 by omega)
    have m1 := Int.emod_lt_of_pos (s : Int) lg
    have l := len_I (h := [stO 1 2 ((s + 1 : Nat) : Int), .lst (vI cs), .lst (vI gs), .lst (vI [])]) (a := 2) (xs := gs) rfl
    have i5 := ix_lstA (h := [stO 1 2 ((s + 1 : Nat) : Int), .lst (vI cs), .lst (vI gs), .lst (vI [])]) (a := 2) (l := gs) rfl m0 m1
    generalize ev : gs.getD ((s : Int) % (gs.length : Int)).toNat 0 = v at i5
    have gt := gt_int v 0 [stO 1 2 ((s + 1 : Nat) : Int), .lst (vI cs), .lst (vI gs), .lst (vI [])]
    by_cases pos : 0 < v
    · rw [decide_eq_true pos] at gt
      refine ⟨v % lim, gs.set ((s : Int) % (gs.length : Int)).toNat (v / lim), [some (.ref 0), some (.int lim), some (.int s), some (.ref 2), some (.int ((s : Int) % (gs.length : Int))), some (.int v)], [.lst (vI [])], Int.emod_nonneg _ (by omega), Int.emod_lt_of_pos _ h0, start _ ?_⟩
      refine (x_if (s_ifT (e_cmp (e_ix (e_var rfl) e_con (st_G rfl)) (e_lst es_nil rfl) ne) ?_))
      refine (x_cons (s_asg (e_ix (e_var rfl) e_con (st_G rfl)) rfl)).trans ?_
      refine (x_cons (s_asg (e_2 (e_1 (e_var rfl) (int1_int _ _)) (e_1 (e_var rfl) l) (mod_int lg)) rfl)).trans ?_
      refine (x_cons (s_asg (e_ix (e_var rfl) (e_var rfl) i5) rfl)).trans ?_
      refine x_if (s_ifT (e_cmp (e_var rfl) e_con gt) ?_)
      refine (x_cons (s_setIx (e_2 (e_var rfl) (e_var rfl) (fdiv_int h0 h1)) (e_var rfl) (e_var rfl) (put_lstA (l := gs) rfl m0 m1))).trans ?_
      exact x_ret (e_2 (e_1 (e_var rfl) (int1_int _ _)) (e_var rfl) (mod_int h0))
    · rw [decide_eq_false pos] at gt
      obtain ⟨k, ρ', k0, k1, e⟩ := rest [some (.ref 0), some (.int lim), some (.int s), some (.ref 2), some (.int ((s : Int) % (gs.length : Int))), some (.int v)] rfl rfl rfl rfl [.lst (vI [])]
      refine ⟨k, gs, ρ', [.lst (vI [])], k0, k1, start _ ?_⟩
      refine x_at rfl (s_ifT (e_cmp (e_ix (e_var rfl) e_con (st_G rfl)) (e_lst es_nil rfl) ne) ?_) rfl e
      refine (x_cons (s_asg (e_ix (e_var rfl) e_con (st_G rfl)) rfl)).trans ?_
      refine (x_cons (s_asg (e_2 (e_1 (e_var rfl) (int1_int _ _)) (e_1 (e_var rfl) l) (mod_int lg)) rfl)).trans ?_
      refine (x_cons (s_asg (e_ix (e_var rfl) (e_var rfl) i5) rfl)).trans ?_
      exact x_last (s_ifF (e_cmp (e_var rfl) e_con gt) x_nil)
/-- a number is drawn -/
theorem c21 (w d : Nat) {h : Hip} {a b c : Nat} {cs gs : List Int} {s : Nat} (A : StA h a b c cs gs s) (lim : Int) (h0 : 0 < lim) (h1 : lim < 1073741824) (hs : s < 100000000000) : ∃ (k : Int) (gs' : List Int), 0 ≤ k ∧ k < lim ∧
    callF (P w) (d + 2) 21 [.ref a, .int lim] h = .ok (.int k) (goOn h a b c cs gs' (s + 1)) := by
  obtain ⟨k, gs', ρ, g, k0, k1, e⟩ := c21b w d (cs := cs) (gs := gs) (s := s) lim h0 h1 hs A.l
  refine ⟨k, gs', k0, k1, ?_⟩
  exact call3 (fd := d21) (vs := [.int lim]) rfl rfl rfl A.ab A.ac A.bc A.o A.p A.q st_refs (vI_refs _) (vI_refs _) (st_map (place3b A.ab) (place3c A.ac A.bc)) e rfl st_refs (vI_refs _) (vI_refs _) (st_map rfl rfl)
end K97

set_option maxRecDepth 100000
namespace K97
open Z Fig
theorem fold1 (w : Nat) (cf : CF) (it : Wk) (hat : ∀ j h, it.at j h = true) (sc : Val) : ∀ (ns cs : List Int) (i : Nat) (p q : Option Val), cs.length = 64 → ∃ (cs' : List Int) (p' q' : Option Val), cs'.length = 64 ∧
    forL it (loopStep (.tp [2, 3]) (exSs (P w) cf b20_2)) i (pairs (rng (i : Nat) ns.length) (vI ns)) [some sc, some (.ref 0), p, q] [.lst (vI cs)] = .ok (.nx, [some sc, some (.ref 0), p', q']) [.lst (vI cs')]
  | [], cs, i, p, q, hc => ⟨cs, p, q, hc, by
    show forL it _ i [] _ _ = _
    unfold forL; rw [if_pos (hat _ _)]⟩
  | x :: ns, cs, i, p, q, hc => by
    have m0 : 0 ≤ (i : Int) % 64 := by omega
    have m1 : (i : Int) % 64 < (cs.length : Int) := by omega
    obtain ⟨cs', p', q', hc', ih⟩ := fold1 w cf it hat sc ns (cs.set ((i : Int) % 64).toNat ((cs.getD ((i : Int) % 64).toNat 0 * 48271 + x) % 2147483647)) (i + 1) (some (.int (i : Nat))) (some (.int x)) (by rw [List.length_set]; exact hc)
    refine ⟨cs', p', q', hc', ?_⟩
    rw [vI_cons, List.length_cons]
    show forL it _ i (.tup [.int (i : Nat), .int x] :: pairs (rng ((i : Int) + 1) ns.length) (vI ns)) _ _ = _
    unfold forL
    rw [if_pos (hat _ _), show ((i : Int) + 1) = ((i + 1 : Nat) : Int) by omega]
    have b : loopStep (.tp [2, 3]) (exSs (P w) cf b20_2) (.tup [.int (i : Nat), .int x]) [some sc, some (.ref 0), p, q] [.lst (vI cs)] = .ok (.nx, [some sc, some (.ref 0), some (.int (i : Nat)), some (.int x)]) [.lst (vI (cs.set ((i : Int) % 64).toNat ((cs.getD ((i : Int) % 64).toNat 0 * 48271 + x) % 2147483647)))] := by
      show exSs (P w) cf b20_2 [some sc, some (.ref 0), some (.int (i : Nat)), some (.int x)] [.lst (vI cs)] = _
      exact x_last (s_setIx (e_2 (e_1 (e_2 (e_2 (e_ix (e_var rfl) (e_2 (e_1 (e_var rfl) (int1_int _ _)) e_con (mod_int (by decide))) (ix_lstA (l := cs) rfl m0 m1)) e_con (mul_int (mulOk_r (by decide)))) (e_var rfl) add_int) (int1_int _ _)) e_con (mod_int (by decide))) (e_var rfl) (e_2 (e_1 (e_var rfl) (int1_int _ _)) e_con (mod_int (by decide))) (put_lstA (l := cs) rfl m0 m1))
    rw [b]
    exact ih
theorem fold2 (w : Nat) (cf : CF) (it : Wk) (hat : ∀ j h, it.at j h = true) (sc : Val) (q : Option Val) : ∀ (m k i : Nat) (cs : List Int) (p : Option Val), 1 ≤ k → k + m = 64 → cs.length = 64 → ∃ (cs' : List Int) (p' : Option Val), cs'.length = 64 ∧
    forL it (loopStep (.nm 2) (exSs (P w) cf b20_3)) i (rng (k : Nat) m) [some sc, some (.ref 0), p, q] [.lst (vI cs)] = .ok (.nx, [some sc, some (.ref 0), p', q]) [.lst (vI cs')]
  | 0, k, i, cs, p, _, _, hc => ⟨cs, p, hc, by
    show forL it _ i [] _ _ = _
    unfold forL; rw [if_pos (hat _ _)]⟩
  | m + 1, k, i, cs, p, h1, hk, hc => by
    obtain ⟨cs', p', hc', ih⟩ := fold2 w cf it hat sc q m (k + 1) (i + 1) (cs.set ((k : Nat) : Int).toNat ((cs.getD ((k : Nat) : Int).toNat 0 + cs.getD ((k : Int) - 1).toNat 0 * 16807) % 2147483647)) (some (.int (k : Nat))) (by omega) (by omega) (by rw [List.length_set]; exact hc)
    refine ⟨cs', p', hc', ?_⟩
    show forL it _ i (.int (k : Nat) :: rng ((k : Int) + 1) m) _ _ = _
    unfold forL
    rw [if_pos (hat _ _), show ((k : Int) + 1) = ((k + 1 : Nat) : Int) by omega]
    have b : loopStep (.nm 2) (exSs (P w) cf b20_3) (.int (k : Nat)) [some sc, some (.ref 0), p, q] [.lst (vI cs)] = .ok (.nx, [some sc, some (.ref 0), some (.int (k : Nat)), q]) [.lst (vI (cs.set ((k : Nat) : Int).toNat ((cs.getD ((k : Nat) : Int).toNat 0 + cs.getD ((k : Int) - 1).toNat 0 * 16807) % 2147483647)))] := by
      show exSs (P w) cf b20_3 [some sc, some (.ref 0), some (.int (k : Nat)), q] [.lst (vI cs)] = _
      exact x_last (s_setIx (e_2 (e_1 (e_2 (e_ix (e_var rfl) (e_var rfl) (ix_lstA (l := cs) rfl (by omega) (by omega))) (e_2 (e_ix (e_var rfl) (e_2 (e_var rfl) e_con sub_int) (ix_lstA (l := cs) rfl (by omega) (by omega))) e_con (mul_int (mulOk_r (by decide)))) add_int) (int1_int _ _)) e_con (mod_int (by decide))) (e_var rfl) (e_var rfl) (put_lstA (l := cs) rfl (by omega) (by omega)))
    rw [b]
    exact ih
theorem range_two {i j : Int} (h : small i = true) (h2 : small j = true) : rangeOf [.int i, .int j] = some (rng i (j - i).toNat) := by
  show (if (small i && small j) = true then some (rng i (j - i).toNat) else none) = _
  rw [h, h2]; rfl
theorem pure_enter {vs : List Val} {h : Hip} (hv : refsVs vs = []) : enterC vs h = some ([], vs, []) := by
  unfold enterC
  simp only [hv, reach_nil RF_pos]
  rw [mapVs_none hv]
  rfl
theorem c20 (w d : Nat) (ns : List Int) : ∃ cs : List Int, cs.length = 64 ∧ callF (P w) (d + 1) 20 [.lv (vI ns)] [] = .ok (.ref 0) [.lst (vI cs)] := by
  have l1 := lc_ints (k := ⟨vI ((List.range 64).map fun i : Nat => (i : Int)), none⟩) (f := compStep (.nm 2) (wipes [some (.lv (vI ns)), none, none, none] [2]) (evC (P w) (callF (P w) d) b20_0) (evE (P w) (callF (P w) d) b20_1)) (g := fun x => 17 + x) (h := []) (fun _ => rfl) ((List.range 64).map fun i : Nat => (i : Int)) 0 (fun x m => by
      have e : evE (P w) (callF (P w) d) b20_1 [some (.lv (vI ns)), none, some (.int x), none] [] = .ok (.int (17 + x)) [] := e_2 e_con (e_var rfl) add_int
      show (Res.bind (.ok true []) fun b h => if b then (evE (P w) (callF (P w) d) b20_1 [some (.lv (vI ns)), none, some (.int x), none] h).bind fun y h => .ok (some y) h else .ok none h) = _
      simp only [Res.bind, if_pos, e]) (by simp)
  generalize e0 : ((List.range 64).map fun i : Nat => (i : Int)).map (fun x => 17 + x) = c0 at l1
  have hc0 : c0.length = 64 := by rw [← e0]; simp
  obtain ⟨c1, p1, q1, hc1, el1⟩ := fold1 w (callF (P w) d) ⟨pairs (rng 0 (vI ns).length) (vI ns), none⟩ (fun _ _ => rfl) (.lv (vI ns)) ns c0 0 none none hc0
  obtain ⟨c2, p2, hc2, el2⟩ := fold2 w (callF (P w) d) ⟨rng 1 63, none⟩ (fun _ _ => rfl) (.lv (vI ns)) q1 63 1 0 c1 p1 (by omega) (by omega) hc1
  refine ⟨c2, hc2, ?_⟩
  have b : exSs (P w) (callF (P w) d) (dropS 0 b20) [some (.lv (vI ns)), none, none, none] [] = .ok (.ret (.ref 0), [some (.lv (vI ns)), some (.ref 0), p2, q1]) [.lst (vI c2)] := by
    refine x_at rfl (s_asg (ec_lc (i_range (es_cons e_con es_nil) (range_nat (n := 64) (by omega))) l1) rfl) rfl ?_
    have en : evI (P w) (callF (P w) d) (.enum (.var 0)) [some (.lv (vI ns)), some (.ref 0), none, none] [.lst (vI c0)] = .ok ⟨pairs (rng 0 (vI ns).length) (vI ns), none⟩ [.lst (vI c0)] := by
      simp only [evI, evE, Res.bind, List.getElem?_cons_zero]
    rw [← vI_len ns] at el1
    refine x_at rfl (s_loop en el1) rfl ?_
    refine x_at rfl (s_loop (i_range (es_cons e_con (es_cons e_con es_nil)) (range_two rfl rfl)) el2) rfl ?_
    exact x_ret (e_var rfl)
  have e3 : leaveC [] (.ref 0) [.lst (vI c2)] [] = .ok (.ref 0) [.lst (vI c2)] := by
    unfold leaveC
    have rc : reach [.lst (vI c2)] RF [0] [] = [0] := by
      rw [reach_cons RF_pos]
      simp only [List.contains_nil, if_neg Bool.false_ne_true, List.getElem?_cons_zero, refsO, vI_refs, List.append_nil, List.nil_append]
      rw [reach_nil (by decide)]
    have fl : [0].filter (fun i => decide (0 ≤ i)) = [0] := by decide
    simp only [refsV, List.length_nil, List.take_zero, refsAll, List.append_nil, rc, fl, mapV, show backTo [] [0] 0 0 = some 0 from rfl, Option.map_some, show List.range 0 = [] from rfl]
    simp only [takeO, List.getElem?_cons_zero, Option.bind_some, lst_map (vI_refs _), putO, List.nil_append]
  exact call_of (fd := d20) rfl rfl (pure_enter (by simp only [refsVs, refsV, vI_refs, List.append_nil])) (run_ret (ρ := [some (.lv (vI ns)), some (.ref 0), p2, q1]) b) e3
/-- the state at its start -/
theorem c22 (w d : Nat) (ns : List Int) (hl : ns.length < 1000) : ∃ cs gs : List Int, cs.length = 64 ∧ callF (P w) (d + 2) 22 [.lv (vI ns)] [] = .ok (.ref 0) [stO 1 2 (0 : Nat), .lst (vI cs), .lst (vI gs)] := by
  obtain ⟨cs, hc, e20⟩ := c20 w d ns
  have l1 := lc_ints (k := ⟨vI ns, none⟩) (f := compStep (.nm 2) (wipes [some (.lv (vI ns)), some (.ref 2), none] [2]) (evC (P w) (callF (P w) (d + 1)) b22_0) (evE (P w) (callF (P w) (d + 1)) b22_1)) (g := fun x => if 1000000000000000000 ≤ x then x else 0) (h := [.lst (vI cs), .lst [], stO 0 1 (0 : Nat)]) (fun _ => rfl) ns 0 (fun x m => by
      have pw : binOp .pow (.int 10) (.int 18) [.lst (vI cs), .lst [], stO 0 1 (0 : Nat)] = .ok (.int 1000000000000000000) [.lst (vI cs), .lst [], stO 0 1 (0 : Nat)] := rfl
      have ge := ge_int x 1000000000000000000 [.lst (vI cs), .lst [], stO 0 1 (0 : Nat)]
      have e : evE (P w) (callF (P w) (d + 1)) b22_1 [some (.lv (vI ns)), some (.ref 2), some (.int x)] [.lst (vI cs), .lst [], stO 0 1 (0 : Nat)] = .ok (.int (if 1000000000000000000 ≤ x then x else 0)) [.lst (vI cs), .lst [], stO 0 1 (0 : Nat)] := by
        have c := e_cmp (P := P w) (cf := callF (P w) (d + 1)) (ρ := [some (.lv (vI ns)), some (.ref 2), some (.int x)]) (e_var (i := 2) rfl) (e_2 (o := .pow) e_con e_con pw) ge
        unfold b22_1
        simp only [evE] at c ⊢
        rw [c]
        by_cases q : (1000000000000000000 : Int) ≤ x
        · rw [decide_eq_true q, if_pos q]; rfl
        · rw [decide_eq_false q, if_neg q]; rfl
      show (Res.bind (.ok true _) fun b h => if b then (evE (P w) (callF (P w) (d + 1)) b22_1 [some (.lv (vI ns)), some (.ref 2), some (.int x)] h).bind fun y h => .ok (some y) h else .ok none h) = _
      simp only [Res.bind, if_pos, e]) (by omega)
  generalize ns.map (fun x => if (1000000000000000000 : Int) ≤ x then x else 0) = gs at l1
  refine ⟨cs, gs, hc, ?_⟩
  have b : exSs (P w) (callF (P w) (d + 1)) (dropS 0 b22) [some (.lv (vI ns)), none, none] [] = .ok (.ret (.ref 2), [some (.lv (vI ns)), some (.ref 2), none]) [.lst (vI cs), .lst [], stO 0 3 (0 : Nat), .lst (vI gs)] := by
    have dd : evE (P w) (callF (P w) (d + 1)) (.dct [.str "cells", .str "great", .str "spot"] (.cons (.call 20 (.cons (.var 0) .nil)) (.cons (.lst .nil) (.cons (.con (.int 0)) .nil)))) [some (.lv (vI ns)), none, none] [] = .ok (.ref 2) [.lst (vI cs), .lst [], stO 0 1 (0 : Nat)] := by
      have e := es_cons (P := P w) (cf := callF (P w) (d + 1)) (ρ := [some (.lv (vI ns)), none, none]) (ec_call (es_cons (e_var (i := 0) rfl) es_nil) e20) (es_cons (e_lst es_nil rfl) (es_cons (e_con (v := .int 0)) es_nil))
      simp only [evE, e, Res.bind]
      have nd : (([.str "cells", .str "great", .str "spot"] : List Val).all isKey1 && decide (List.Nodup ([.str "cells", .str "great", .str "spot"] : List Val)) && decide (([.str "cells", .str "great", .str "spot"] : List Val).length = ([Val.ref 0, .ref [Ob.lst (vI cs)].length, .int 0] : List Val).length)) = true := by
        have : List.Nodup ([.str "cells", .str "great", .str "spot"] : List Val) := by decide +kernel
        rw [decide_eq_true this]; rfl
      rw [if_pos nd]
      rfl
    refine x_at rfl (s_asg dd rfl) rfl ?_
    refine x_at rfl (s_setIx (ec_lc (i_seq (e_var rfl) rfl) l1) (e_var rfl) e_con (st_putG (b := 0) (c := 1) (s := (0 : Nat)) rfl 3)) rfl ?_
    exact x_ret (e_var rfl)
  have e3 : leaveC [] (.ref 2) [.lst (vI cs), .lst [], stO 0 3 (0 : Nat), .lst (vI gs)] [] = .ok (.ref 0) [stO 1 2 (0 : Nat), .lst (vI cs), .lst (vI gs)] := by
    unfold leaveC
    have rc : reach [.lst (vI cs), .lst [], stO 0 3 (0 : Nat), .lst (vI gs)] RF [2] [] = [2, 0, 3] := reach3 (by decide) (by decide) (by decide) rfl rfl rfl st_refs (by simp only [refsO, vI_refs]) (by simp only [refsO, vI_refs])
    have fl : [2, 0, 3].filter (fun i => decide (0 ≤ i)) = [2, 0, 3] := by decide
    simp only [refsV, List.length_nil, List.take_zero, refsAll, List.append_nil, rc, fl, mapV, show backTo [] [2, 0, 3] 0 2 = some 0 from rfl, Option.map_some, show List.range 0 = [] from rfl]
    simp only [takeO, List.getElem?_cons_zero, List.getElem?_cons_succ, Option.bind_some, st_map (f := backTo [] [2, 0, 3] 0) (b := 0) (c := 3) (b' := 1) (c' := 2) rfl rfl, lst_map (vI_refs _), putO, List.nil_append]
  exact call_of (fd := d22) rfl rfl (pure_enter (by simp only [refsVs, refsV, vI_refs, List.append_nil])) (run_ret (ρ := [some (.lv (vI ns)), some (.ref 2), none]) b) e3
end K97

set_option maxRecDepth 100000
namespace K97
open Z Fig
/-! the law's own naming -/
theorem named25 (w : Nat) (cf : CF) (it : Wk) (o : Ob) (hat : ∀ j o' o'', it.at j [o, o', o''] = true) (mk : Val) : ∀ (xs seen found : List Int) (i : Nat) (p : Option Val), seen.length + xs.length < 1000 → found.length + xs.length < 1000 →
    ∃ p', forL it (loopStep (.nm 1) (exSs (P w) cf b25_0)) i (vI xs) [some mk, p, some (.ref 1), some (.ref 2)] [o, .lst (vI seen), .lst (vI found)] =
      .ok (.nx, [some mk, p', some (.ref 1), some (.ref 2)]) [o, .lst (vI (seenG seen xs)), .lst (vI (found ++ namG seen xs))]
  | [], seen, found, i, p, _, _ => by
    refine ⟨p, ?_⟩
    simp [namG, seenG, forL, hat]
  | x :: xs, seen, found, i, p, s1, s2 => by
    have e1 : namG seen (x :: xs) = if x ∈ seen then (seen.idxOf x : Int) :: namG seen xs else (seen.length : Int) :: namG (seen ++ [x]) xs := rfl
    have e3 : seenG seen (x :: xs) = if x ∈ seen then seenG seen xs else seenG (seen ++ [x]) xs := rfl
    rw [List.length_cons] at s1 s2
    have ni := notin_I (h := [o, .lst (vI seen), .lst (vI found)]) (a := 1) (l := seen) rfl x
    rw [e1, e3, vI_cons]
    by_cases m : x ∈ seen
    · rw [if_pos m, if_pos m]
      rw [decide_eq_true m] at ni
      obtain ⟨p', ih⟩ := named25 w cf it o hat mk xs seen (found ++ [(seen.idxOf x : Int)]) (i + 1) (some (.int x)) (by omega) (by rw [List.length_append, List.length_singleton]; omega)
      refine ⟨p', ?_⟩
      unfold forL
      rw [if_pos (hat _ _ _)]
      have b : loopStep (.nm 1) (exSs (P w) cf b25_0) (.int x) [some mk, p, some (.ref 1), some (.ref 2)] [o, .lst (vI seen), .lst (vI found)] = .ok (.nx, [some mk, some (.int x), some (.ref 1), some (.ref 2)]) [o, .lst (vI seen), .lst (vI (found ++ [(seen.idxOf x : Int)]))] := by
        show exSs (P w) cf b25_0 [some mk, some (.int x), some (.ref 1), some (.ref 2)] _ = _
        refine (x_cons (s_ifF (e_cmp (e_var rfl) (e_var rfl) ni) x_nil)).trans ?_
        exact (x_last (s_expr (e_bm (e_var rfl) rfl (e_bm (e_var rfl) rfl (e_var rfl) (index_I rfl m)) (append_I rfl (by omega) _)))).trans rfl
      rw [b]
      rw [List.append_assoc] at ih
      exact ih
    · rw [if_neg m, if_neg m]
      rw [decide_eq_false m] at ni
      obtain ⟨p', ih⟩ := named25 w cf it o hat mk xs (seen ++ [x]) (found ++ [(seen.length : Int)]) (i + 1) (some (.int x)) (by rw [List.length_append, List.length_singleton]; omega) (by rw [List.length_append, List.length_singleton]; omega)
      refine ⟨p', ?_⟩
      unfold forL
      rw [if_pos (hat _ _ _)]
      have ix : (seen ++ [x]).idxOf x = seen.length := by
        rw [List.idxOf_append, if_neg m]; simp
      have b : loopStep (.nm 1) (exSs (P w) cf b25_0) (.int x) [some mk, p, some (.ref 1), some (.ref 2)] [o, .lst (vI seen), .lst (vI found)] = .ok (.nx, [some mk, some (.int x), some (.ref 1), some (.ref 2)]) [o, .lst (vI (seen ++ [x])), .lst (vI (found ++ [(seen.length : Int)]))] := by
        show exSs (P w) cf b25_0 [some mk, some (.int x), some (.ref 1), some (.ref 2)] _ = _
        refine (x_cons (s_ifT (e_cmp (e_var rfl) (e_var rfl) ni) (x_last (s_expr (e_bm (e_var rfl) rfl (e_var rfl) (append_I (xs := seen) rfl (by omega) _)))))).trans ?_
        have ind := index_I (h := [o, .lst (vI (seen ++ [x])), .lst (vI found)]) (a := 1) (l := seen ++ [x]) rfl (x := x) (by simp)
        rw [ix] at ind
        exact (x_last (s_expr (e_bm (e_var rfl) rfl (e_bm (e_var rfl) rfl (e_var rfl) ind) (append_I (xs := found) rfl (by omega) _)))).trans rfl
      rw [b]
      rw [List.append_assoc] at ih
      exact ih
theorem c25 (w d a : Nat) {l : List Int} (hl : l.length < 1000) {h : Hip} (ha : h[a]? = some (.lst (vI l))) : callF (P w) (d + 1) 25 [.ref a] h = .ok (.tup (vI (nam l))) h := by
  obtain ⟨p', e⟩ := named25 w (callF (P w) d) ⟨vI l, some 0⟩ (.lst (vI l)) (fun j o' o'' => at_src rfl j) (.ref 0) l [] [] 0 none (by simpa using hl) (by simpa using hl)
  have := call_one (P := P w) (d := d) (f := 25) (a := a) (fd := d25) (vs := []) (v := .tup (vI (nam l))) (o := .lst (vI l)) (o' := .lst (vI l)) (ρ := [some (.ref 0), p', some (.ref 1), some (.ref 2)]) (g := [.lst (vI (seenG [] l)), .lst (vI (nam l))]) (h := h) rfl rfl (by simp [refsVs]) ha (by simp only [refsO, vI_refs])
    (lst_map (vI_refs _)) (.inl (by
      show exSs (P w) (callF (P w) d) (dropS 0 b25) [some (.ref 0), none, none, none] [.lst (vI l)] = _
      refine x_at rfl (s_asg (e_tup (es_cons (e_lst es_nil rfl) (es_cons (e_lst es_nil rfl) es_nil)) rfl) rfl) rfl ?_
      refine x_at rfl (s_loop (i_seq (e_var rfl) rfl) e) rfl ?_
      exact x_ret (e_1 (e_var rfl) (tup_ref rfl)))) (by simp only [refsV, vI_refs]) (by simp only [refsO, vI_refs]) (lst_map (vI_refs _))
  rw [set_self ha] at this
  exact this
end K97

set_option maxRecDepth 100000
namespace K97
open Z Fig
/-- a good deed -/
inductive Deed (n : Nat) : Val → Prop where
  | cut (p : Nat) (h : p < n) : Deed n (.tup [.str "cut", .int p])
  | hook (p : Nat) (h : p + 1 < n) : Deed n (.tup [.str "hook", .int p])
  | join (p : Nat) (h : p + 1 < n) : Deed n (.tup [.str "join", .int p])
  | swap (p : Nat) (h : p + 1 < n) : Deed n (.tup [.str "swap", .int p])
theorem s_setIx2 {P : Pg} {cf : CF} {ρ : Env} {h h1 h2 h3 h4 h5 h6 h7 h8 : Hip} {a b o i p j : IE} {v u x k y l : Val} (ha : evE P cf a ρ h = .ok v h1) (hb : evE P cf b ρ h1 = .ok u h2) (ho : evE P cf o ρ h2 = .ok x h3) (hi : evE P cf i ρ h3 = .ok k h4) (hp : putIx x k v h4 = .ok () h5)
    (ho2 : evE P cf p ρ h5 = .ok y h6) (hj : evE P cf j ρ h6 = .ok l h7) (hq : putIx y l u h7 = .ok () h8) : exS P cf (.setIx2 a b o i p j) ρ h = .ok (.nx, ρ) h8 := by
  simp only [exS, ha, hb, ho, hi, hp, ho2, hj, hq, Res.bind]
theorem nam_fg {n : Nat} {l : List Int} (h : l.length = 2 * n) : Fg n (nam l) := ⟨by rw [nam_len, h], nam_nam l⟩
theorem ok_cut : PySem.PyData.strOk "cut" = true := by decide +kernel
theorem ok_hook : PySem.PyData.strOk "hook" = true := by decide +kernel
theorem ok_join : PySem.PyData.strOk "join" = true := by decide +kernel
theorem ok_swap : PySem.PyData.strOk "swap" = true := by decide +kernel
theorem eq_w (h : Hip) {a b : PySem.Str} (oa : PySem.PyData.strOk a = true) (ob : PySem.PyData.strOk b = true) {t : Bool} (e : decide (a = b) = t) : cmpOp .eq (.str a) (.str b) h = some t := by rw [eq_strC h oa ob, e]
end K97

set_option maxRecDepth 100000
namespace K97
open Z Fig
theorem upon28 (w : Nat) (cf : CF) {n : Nat} {near far : List Int} (l0 : List Int) (hl : l0.length = 4 * n) (hn : n ≤ 5) (it : Wk) (hat : ∀ j h, it.at j h = true) (v1 v2 : Val) : ∀ (m k i : Nat) (a : Nat) (h : Hip) (p q r : Option Val), k + m = n → h[a]? = some (.lst (vI (mks n l0 k))) →
    ∃ (a' : Nat) (h' : Hip) (p' q' r' : Option Val), h'[a']? = some (.lst (vI (mks n l0 n))) ∧ forL it (loopStep (.nm 4) (exSs (P w) cf b28_6)) i (vI ((List.range' k m).map fun i : Nat => (i : Int)))
      [some (.int n), some v1, some v2, some (.ref a), p, none, none, none, q, r, none] h = .ok (.nx, [some (.int n), some v1, some v2, some (.ref a'), p', none, none, none, q', r', none]) h'
  | 0, k, i, a, h, p, q, r, hk, e => by
    have : k = n := by omega
    subst this
    exact ⟨a, h, p, q, r, e, by show forL it _ i [] _ _ = _; unfold forL; rw [if_pos (hat _ _)]⟩
  | m + 1, k, i, a, h, p, q, r, hk, e => by
    have ll : (mks n l0 k).length = 4 * n := by rw [mks_len, hl]
    have hm1 : mulOk 2 (n : Int) = true := mulOk_l (by decide)
    have c1 : 2 * (n : Int) + (k : Int) = ((2 * n + k : Nat) : Int) := by omega
    have c2 : (n : Int) + (k : Int) = ((n + k : Nat) : Int) := by omega
    have i1 := ix_lstA (x := 2 * (n : Int) + (k : Int)) e (by omega) (by rw [ll]; omega)
    have i2 := ix_lstA (x := (n : Int) + (k : Int)) e (by omega) (by rw [ll]; omega)
    have t1 : (2 * (n : Int) + (k : Int)).toNat = 2 * n + k := by omega
    have t2 : ((n : Int) + (k : Int)).toNat = n + k := by omega
    rw [t1] at i1
    rw [t2] at i2
    have ne := ne_intC ((mks n l0 k).getD (2 * n + k) 0) ((mks n l0 k).getD (n + k) 0) h
    have ek : mks n l0 (k + 1) = mk n (mks n l0 k) k := rfl
    unfold mk at ek
    rw [List.range'_succ, List.map_cons, vI_cons]
    by_cases c : (mks n l0 k).getD (2 * n + k) 0 = (mks n l0 k).getD (n + k) 0
    · rw [decide_eq_true c] at ne
      rw [if_neg (fun z => z c)] at ek
      rw [← ek] at e
      obtain ⟨a', h', p', q', r', e', ih⟩ := upon28 w cf (near := near) (far := far) l0 hl hn it hat v1 v2 m (k + 1) (i + 1) a h (some (.int (k : Nat))) (some (.int ((mks n l0 k).getD (2 * n + k) 0))) (some (.int ((mks n l0 k).getD (n + k) 0))) (by omega) e
      refine ⟨a', h', p', q', r', e', ?_⟩
      unfold forL
      rw [if_pos (hat _ _)]
      have b : loopStep (.nm 4) (exSs (P w) cf b28_6) (.int (k : Nat)) [some (.int n), some v1, some v2, some (.ref a), p, none, none, none, q, r, none] h = .ok (.nx, [some (.int n), some v1, some v2, some (.ref a), some (.int (k : Nat)), none, none, none, some (.int ((mks n l0 k).getD (2 * n + k) 0)), some (.int ((mks n l0 k).getD (n + k) 0)), none]) h := by
        show exSs (P w) cf b28_6 [some (.int n), some v1, some v2, some (.ref a), some (.int (k : Nat)), none, none, none, q, r, none] h = _
        refine (x_cons (s_asg (e_tup (es_cons (e_ix (e_var rfl) (e_2 (e_2 e_con (e_var rfl) (mul_int hm1)) (e_var rfl) add_int) i1) (es_cons (e_ix (e_var rfl) (e_2 (e_var rfl) (e_var rfl) add_int) i2) es_nil)) rfl) rfl)).trans ?_
        exact x_last (s_ifF (e_cmp (e_var rfl) (e_var rfl) ne) x_nil)
      rw [b]
      exact ih
    · rw [decide_eq_false c] at ne
      rw [if_pos c] at ek
      have e2 : (h ++ [.lst (vI (mks n l0 (k + 1)))])[h.length]? = some (.lst (vI (mks n l0 (k + 1)))) := get_new
      obtain ⟨a', h', p', q', r', e', ih⟩ := upon28 w cf (near := near) (far := far) l0 hl hn it hat v1 v2 m (k + 1) (i + 1) h.length (h ++ [.lst (vI (mks n l0 (k + 1)))]) (some (.int (k : Nat))) (some (.int ((mks n l0 k).getD (2 * n + k) 0))) (some (.int ((mks n l0 k).getD (n + k) 0))) (by omega) e2
      refine ⟨a', h', p', q', r', e', ?_⟩
      unfold forL
      rw [if_pos (hat _ _)]
      have lcm := lc_ints (k := ⟨vI (mks n l0 k), some a⟩) (f := compStep (.nm 10) (wipes [some (.int n), some v1, some v2, some (.ref a), some (.int (k : Nat)), none, none, none, some (.int ((mks n l0 k).getD (2 * n + k) 0)), some (.int ((mks n l0 k).getD (n + k) 0)), none] [10]) (evC (P w) cf b28_4) (evE (P w) cf b28_5)) (g := fun x => if x = (mks n l0 k).getD (2 * n + k) 0 then (mks n l0 k).getD (n + k) 0 else x) (h := h) (fun i => at_src e i) (mks n l0 k) 0 (fun x m => by
          refine comp_no rfl (e_ite (e_cmp (e_var rfl) (e_var rfl) (eq_intC _ _ _)) ?_)
          by_cases q : x = (mks n l0 k).getD (2 * n + k) 0
          · rw [decide_eq_true q, if_pos rfl, if_pos q]; exact e_var rfl
          · rw [decide_eq_false q, if_neg Bool.false_ne_true, if_neg q]; exact e_var rfl) (by omega)
      rw [← ek] at lcm
      have b : loopStep (.nm 4) (exSs (P w) cf b28_6) (.int (k : Nat)) [some (.int n), some v1, some v2, some (.ref a), p, none, none, none, q, r, none] h = .ok (.nx, [some (.int n), some v1, some v2, some (.ref h.length), some (.int (k : Nat)), none, none, none, some (.int ((mks n l0 k).getD (2 * n + k) 0)), some (.int ((mks n l0 k).getD (n + k) 0)), none]) (h ++ [.lst (vI (mks n l0 (k + 1)))]) := by
        show exSs (P w) cf b28_6 [some (.int n), some v1, some v2, some (.ref a), some (.int (k : Nat)), none, none, none, q, r, none] h = _
        refine (x_cons (s_asg (e_tup (es_cons (e_ix (e_var rfl) (e_2 (e_2 e_con (e_var rfl) (mul_int hm1)) (e_var rfl) add_int) i1) (es_cons (e_ix (e_var rfl) (e_2 (e_var rfl) (e_var rfl) add_int) i2) es_nil)) rfl) rfl)).trans ?_
        exact x_last (s_ifT (e_cmp (e_var rfl) (e_var rfl) ne) (x_last (s_asg (ec_lc (i_seq (e_var rfl) (walkR e)) lcm) rfl)))
      rw [b]
      exact ih
/-- each thing where it comes first -/
def firsts (l : List Int) (k : Nat) : List Int := (List.range k).filterMap fun j => if l.getD j 0 ∈ l.take j then none else some (l.getD j 0)
theorem firsts_ok (l : List Int) : ∀ k, k ≤ l.length → (firsts l k).Nodup ∧ ∀ y, y ∈ firsts l k ↔ y ∈ l.take k
  | 0, _ => ⟨List.nodup_nil, fun y => by simp [firsts]⟩
  | k + 1, hk => by
    obtain ⟨nd, hm⟩ := firsts_ok l k (by omega)
    have e1 : l.take (k + 1) = l.take k ++ [l.getD k 0] := by
      rw [List.take_add_one, getD_some (show k < l.length by omega)]; rfl
    have e2 : firsts l (k + 1) = firsts l k ++ (if l.getD k 0 ∈ l.take k then [] else [l.getD k 0]) := by
      unfold firsts
      rw [List.range_succ, List.filterMap_append]
      congr 1
      by_cases c : l.getD k 0 ∈ l.take k
      · rw [if_pos c, List.filterMap_cons_none (by rw [if_pos c])]; rfl
      · rw [if_neg c, List.filterMap_cons_some (b := l.getD k 0) (by rw [if_neg c])]; rfl
    rw [e1, e2]
    by_cases c : l.getD k 0 ∈ l.take k
    · rw [if_pos c, List.append_nil]
      refine ⟨nd, fun y => ?_⟩
      rw [hm, List.mem_append, List.mem_singleton]
      exact ⟨.inl, fun h => h.elim id fun e => e ▸ c⟩
    · rw [if_neg c]
      refine ⟨?_, fun y => by rw [List.mem_append, List.mem_append, hm]⟩
      rw [List.nodup_append]
      refine ⟨nd, by simp, fun a ha b hb e => ?_⟩
      rw [List.mem_singleton.mp hb] at e
      exact c (e ▸ (hm a).mp ha)
theorem firsts_len (l : List Int) : (firsts l l.length).length = dn l := by
  obtain ⟨nd, hm⟩ := firsts_ok l l.length (Nat.le_refl _)
  rw [← dn_nodup nd]
  exact dn_same fun y => by rw [hm, List.take_length]
def firstsF (l : List Int) : Val → Option Val
  | .int x => if l.getD x.toNat 0 ∈ l.take x.toNat then none else some (.int (l.getD x.toNat 0))
  | _ => none
/-- the comprehension that takes these -/
theorem firsts_fm (l : List Int) : ∀ k, (vI ((List.range k).map fun i : Nat => (i : Int))).filterMap (firstsF l) = vI (firsts l k)
  | 0 => rfl
  | k + 1 => by
    have ih := firsts_fm l k
    unfold firsts at ih ⊢
    rw [List.range_succ, List.map_append, vI_app, List.filterMap_append, ih, List.filterMap_append, vI_app]
    congr 1
    show ([Val.int (k : Nat)] : List Val).filterMap _ = _
    by_cases c : l.getD k 0 ∈ l.take k
    · rw [List.filterMap_cons_none (by show (if l.getD ((k : Nat) : Int).toNat 0 ∈ l.take ((k : Nat) : Int).toNat then _ else _) = _; rw [Int.toNat_natCast, if_pos c]), List.filterMap_cons_none (by rw [if_pos c])]; rfl
    · rw [List.filterMap_cons_some (b := .int (l.getD k 0)) (by show (if l.getD ((k : Nat) : Int).toNat 0 ∈ l.take ((k : Nat) : Int).toNat then _ else _) = _; rw [Int.toNat_natCast, if_neg c]), List.filterMap_cons_some (b := l.getD k 0) (by rw [if_neg c])]; rfl
theorem c28 (d : Nat) {n : Nat} {near far : List Int} (hn : n ≤ 5) (f1 : Fg n near) (f2 : Fg n far) (h : Hip) : callF (P 100) (d + 2) 28 [.int n, .tup (vI near), .tup (vI far)] h = .ok (.tup [.tup (vI (lup n near far)), .int (left n near far : Nat)]) h := by
  have l1 := f1.len
  have l2 := f2.len
  have hm1 : mulOk 2 (n : Int) = true := mulOk_l (by decide)
  have hm3 : mulOk 3 (n : Int) = true := mulOk_l (by decide)
  have ll := lab_len (n := n) l1 l2
  have lm : (mks n (lab n near far) n).length = 4 * n := by rw [mks_len, ll]
  let cf := callF (P 100) (d + 1)
  -- the marks at the start
  have m1 := lc_ints (k := ⟨vI near, none⟩) (f := compStep (.nm 10) (wipes [some (.int n), some (.tup (vI near)), some (.tup (vI far)), none, none, none, none, none, none, none, none] [10]) (evC (P 100) cf b28_0) (evE (P 100) cf b28_1)) (g := fun x => x) (h := []) (fun i => rfl) near 0 (fun x m => comp_no rfl (e_var rfl)) (by omega)
  have m2 := lc_ints (k := ⟨vI far, none⟩) (f := compStep (.nm 10) (wipes [some (.int n), some (.tup (vI near)), some (.tup (vI far)), none, none, none, none, none, none, none, none] [10]) (evC (P 100) cf b28_2) (evE (P 100) cf b28_3)) (g := fun x => 2 * (n : Int) + x) (h := [.lst (vI near)]) (fun i => rfl) far 0 (fun x m => comp_no rfl (e_2 (e_2 e_con (e_var rfl) (mul_int hm1)) (e_var rfl) add_int)) (by omega)
  rw [List.map_id'] at m1
  obtain ⟨a, H, p', q', r', eH, el⟩ := upon28 100 cf (near := near) (far := far) (lab n near far) ll hn ⟨vI ((List.range' 0 n).map fun i : Nat => (i : Int)), none⟩ (fun _ _ => rfl) (.tup (vI near)) (.tup (vI far)) n 0 0 2 [.lst (vI near), .lst (vI (far.map fun x => 2 * (n : Int) + x)), .lst (vI (lab n near far))] none none none (by omega) rfl
  generalize eM : mks n (lab n near far) n = M at eH lm
  have eO : nam (M.take n ++ M.drop (3 * n)) = lup n near far := by rw [← eM]; rfl
  -- kept
  let H3 : Hip := H ++ [Ob.lst (vI (M.take n))] ++ [Ob.lst (vI (M.drop (3 * n)))] ++ [Ob.lst (vI (M.take n ++ M.drop (3 * n)))]
  let H4 : Hip := H3 ++ [Ob.lst (vI ((M.drop n).take (2 * n - n)))]
  let ρ5 : Env := [some (.int n), some (.tup (vI near)), some (.tup (vI far)), some (.ref a), p', some (.ref (H ++ [Ob.lst (vI (M.take n))] ++ [Ob.lst (vI (M.drop (3 * n)))]).length), none, none, q', r', none]
  have eK : H4[(H ++ [Ob.lst (vI (M.take n))] ++ [Ob.lst (vI (M.drop (3 * n)))]).length]? = some (.lst (vI (M.take n ++ M.drop (3 * n)))) := get_old get_new
  have eL : H4[H3.length]? = some (.lst (vI ((M.drop n).take (2 * n - n)))) := get_new
  obtain ⟨lost, llost, elost, m3⟩ : ∃ lost : List Int, lost.length ≤ n ∧ dn lost = left n near far ∧ lcL ⟨vI ((M.drop n).take (2 * n - n)), some H3.length⟩ (compStep (.nm 10) (wipes ρ5 [10]) (evC (P 100) cf b28_7) (evE (P 100) cf b28_8)) 0 (vI ((M.drop n).take (2 * n - n))) [] H4 = .ok (vI lost) H4 := by
    have := lcL_map (k := ⟨vI ((M.drop n).take (2 * n - n)), some H3.length⟩) (f := compStep (.nm 10) (wipes ρ5 [10]) (evC (P 100) cf b28_7) (evE (P 100) cf b28_8)) (φ := fun v => match v with
      | .int x => if (!decide (x ∈ M.take n ++ M.drop (3 * n))) = true then some (.int x) else none
      | _ => none) (h := H4) (fun i => at_src eL i) (vI ((M.drop n).take (2 * n - n))) [] 0 (fun v m => by
        obtain ⟨x, hx, rfl⟩ := List.mem_map.mp m
        have ni := notin_I eK x
        show _ = Res.ok (if (!decide (x ∈ M.take n ++ M.drop (3 * n))) = true then some (Val.int x) else none) H4
        generalize (!decide (x ∈ M.take n ++ M.drop (3 * n))) = t at ni
        cases t
        · exact comp_F rfl (e_cmp (e_var rfl) (e_var rfl) ni)
        · exact comp_T rfl (e_cmp (e_var rfl) (e_var rfl) ni) (e_var rfl)) (by simp; omega)
    refine ⟨((M.drop n).take (2 * n - n)).filter fun x => !decide (x ∈ M.take n ++ M.drop (3 * n)), ?_, ?_, ?_⟩
    · have := List.length_filter_le (fun x => !decide (x ∈ M.take n ++ M.drop (3 * n))) ((M.drop n).take (2 * n - n))
      rw [List.length_take] at this
      omega
    · rw [← eM, show 2 * n - n = n by omega]; rfl
    · rw [this, List.nil_append, fm_filter (fun x => rfl)]
  let H5 : Hip := H4 ++ [Ob.lst (vI lost)]
  let ρ6 : Env := [some (.int n), some (.tup (vI near)), some (.tup (vI far)), some (.ref a), p', some (.ref (H ++ [Ob.lst (vI (M.take n))] ++ [Ob.lst (vI (M.drop (3 * n)))]).length), some (.ref H4.length), none, q', r', none]
  have e6 : ∀ g, (H5 ++ g)[H4.length]? = some (.lst (vI lost)) := fun g => get_old get_new
  obtain ⟨G, m4⟩ := lcL_grow (k := ⟨vI ((List.range lost.length).map fun i : Nat => (i : Int)), none⟩) (f := compStep (.nm 4) (wipes ρ6 [4]) (evC (P 100) cf b28_9) (evE (P 100) cf b28_10)) (φ := firstsF lost) (h0 := H5) (fun i g => rfl) (vI ((List.range lost.length).map fun i : Nat => (i : Int))) [] 0 [] (fun v m g => by
        obtain ⟨x, hx, rfl⟩ := List.mem_map.mp m
        obtain ⟨j, hj, rfl⟩ := List.mem_map.mp hx
        have hj := List.mem_range.mp hj
        refine ⟨g ++ [Ob.lst (vI (lost.take j))], ?_⟩
        have i1 := ix_lstA (x := (j : Nat)) (e6 g) (by omega) (by omega)
        have i2 := ix_lstA (h := H5 ++ (g ++ [Ob.lst (vI (lost.take j))])) (x := (j : Nat)) (e6 _) (by omega) (by omega)
        have sl : slOp (.ref H4.length) none (some (.int (j : Nat))) (H5 ++ g) = .ok (.ref (H5 ++ g).length) (H5 ++ (g ++ [Ob.lst (vI (lost.take j))])) := by
          rw [sl_lo (n := j) (e6 g) (by omega), al, List.append_assoc H5]
        have gn : (H5 ++ (g ++ [Ob.lst (vI (lost.take j))]))[(H5 ++ g).length]? = some (.lst (vI (lost.take j))) := by rw [← List.append_assoc]; exact get_new
        have ni := notin_I gn (lost.getD ((j : Nat) : Int).toNat 0)
        show _ = Res.ok (if lost.getD ((j : Nat) : Int).toNat 0 ∈ lost.take ((j : Nat) : Int).toNat then none else some (Val.int (lost.getD ((j : Nat) : Int).toNat 0))) _
        rw [Int.toNat_natCast] at i1 i2 ni ⊢
        by_cases c : lost.getD j 0 ∈ lost.take j
        · rw [decide_eq_true c] at ni
          rw [if_pos c]
          exact comp_F rfl (e_cmp (e_ix (e_var rfl) (e_var rfl) i1) (e_slHi (e_var rfl) (e_var rfl) sl) ni)
        · rw [decide_eq_false c] at ni
          rw [if_neg c]
          exact comp_T rfl (e_cmp (e_ix (e_var rfl) (e_var rfl) i1) (e_slHi (e_var rfl) (e_var rfl) sl) ni) (e_ix (e_var rfl) (e_var rfl) i2)) (by simp; omega)
  rw [firsts_fm lost lost.length] at m4
  have eg := firsts_len lost
  rw [elost] at eg
  generalize firsts lost lost.length = gone0 at m4 eg
  rw [List.nil_append, List.append_nil] at m4
  rw [← eg]
  refine call_pure (fd := d28) rfl rfl (by simp [refsVs, refsV]) (ρ := [some (.int n), some (.tup (vI near)), some (.tup (vI far)), some (.ref a), p', some (.ref (H ++ [Ob.lst (vI (M.take n))] ++ [Ob.lst (vI (M.drop (3 * n)))]).length), some (.ref H4.length), some (.ref (H5 ++ G).length), q', r', none]) (g := H5 ++ G ++ [Ob.lst (vI gone0)]) ?_ (by simp [refsV, refsVs]) h
  show exSs (P 100) cf (dropS 0 b28) [some (.int n), some (.tup (vI near)), some (.tup (vI far)), none, none, none, none, none, none, none, none] [] = _
  refine x_at rfl (s_asg (e_2 (ec_lc (i_seq (e_var rfl) rfl) m1) (ec_lc (i_seq (e_var rfl) rfl) m2) (add_I (xs := near) (ys := far.map fun x => 2 * (n : Int) + x) rfl rfl (by simp; omega))) rfl) rfl ?_
  have r := range_nat (n := n) (by omega)
  rw [List.range_eq_range'] at r
  refine x_at rfl (s_loop (i_range (es_cons (e_var rfl) es_nil) r) el) rfl ?_
  have e3n : (3 : Int) * (n : Int) = ((3 * n : Nat) : Int) := by omega
  have e2n : (2 : Int) * (n : Int) = ((2 * n : Nat) : Int) := by omega
  have s1 := sl_lo (n := n) eH (by omega)
  have s2 := sl_hi (h := H ++ [Ob.lst (vI (M.take n))]) (n := 3 * n) (get_old eH) (by omega)
  rw [← e3n] at s2
  have ad := add_I (h := H ++ [Ob.lst (vI (M.take n))] ++ [Ob.lst (vI (M.drop (3 * n)))]) (a := H.length) (b := (H ++ [Ob.lst (vI (M.take n))]).length) (xs := M.take n) (ys := M.drop (3 * n)) (get_old get_new) get_new (by simp; omega)
  refine x_at rfl (s_asg (e_2 (e_slHi (e_var rfl) (e_var rfl) s1) (e_slLo (e_var rfl) (e_2 e_con (e_var rfl) (mul_int hm3)) s2) ad) rfl) rfl ?_
  have s3 := sl_both (h := H3) (a := a) (n := n) (m := 2 * n) (l := M) (get_old (get_old (get_old eH))) (by omega) (by omega)
  rw [← e2n] at s3
  refine x_at rfl (s_asg (ec_lc (i_seq (e_slB (e_var rfl) (e_var rfl) (e_2 e_con (e_var rfl) (mul_int hm1)) s3) (walkR eL)) m3) rfl) rfl ?_
  have ln := len_I (h := H5) (a := H4.length) (xs := lost) get_new
  refine x_at rfl (s_asg (ec_lc (i_range (es_cons (e_1 (e_var rfl) ln) es_nil) (range_nat (by omega))) m4) rfl) rfl ?_
  have eK2 : (H5 ++ G ++ [Ob.lst (vI gone0)])[(H ++ [Ob.lst (vI (M.take n))] ++ [Ob.lst (vI (M.drop (3 * n)))]).length]? = some (.lst (vI (M.take n ++ M.drop (3 * n)))) := get_old (get_old (get_old eK))
  have c := c25 100 d _ (by simp; omega) eK2
  rw [eO] at c
  exact x_ret (e_tup (es_cons (ec_call (es_cons (e_var rfl) es_nil) c) (es_cons (e_1 (e_var rfl) (len_I get_new)) es_nil)) rfl)
end K97

set_option maxRecDepth 100000
namespace K97
open Z Fig
theorem Deed.fl {n : Nat} {v : Val} (D : Deed n v) : Fl v := by
  have key : ∀ (s : PySem.Str) (p : Int), PySem.PyData.strOk s = true → Fl (.tup [.str s, .int p]) := fun s p o => by
    refine ⟨by simp only [refsV, refsVs, List.append_nil], fun _ => by simp only [deepW, deepWs, Option.map_some], ?_, ?_⟩
    · simp only [dat, dats_cons, dats_nil, PySem.PyData.canLay0, PySem.PyData.canLayAll0, o, Bool.and_self]
    · simp only [dat, dats_cons, dats_nil, PySem.PyData.depth, PySem.PyData.depthAll]; omega
  cases D
  · exact key _ _ ok_cut
  · exact key _ _ ok_hook
  · exact key _ _ ok_join
  · exact key _ _ ok_swap
/-- one of the four words -/
inductive Word : Val → Prop where
  | cut : Word (.str "cut")
  | hook : Word (.str "hook")
  | join : Word (.str "join")
  | swap : Word (.str "swap")
theorem Word.fl {v : Val} (W : Word v) : Fl v := by
  cases W
  · exact fl_str ok_cut
  · exact fl_str ok_hook
  · exact fl_str ok_join
  · exact fl_str ok_swap
/-- the deeds of a word -/
theorem word_deeds {v : Val} (W : Word v) (n : Nat) (hn : 1 ≤ n) : ∃ (s : PySem.Str) (t : Bool) (m : Nat), v = .str s ∧ (∀ h, cmpOp .ne (.str s) (.str "cut") h = some t) ∧ ((n : Int) - (if t then 1 else 0) = (m : Int)) ∧ m ≤ n ∧ ∀ p : Nat, p < m → Deed n (.tup [v, .int p]) := by
  cases W
  · exact ⟨"cut", false, n, rfl, fun h => by rw [ne_strC h ok_cut ok_cut]; rfl, by simp, Nat.le_refl _, fun p h => .cut p h⟩
  · exact ⟨"hook", true, n - 1, rfl, fun h => by rw [ne_strC h ok_hook ok_cut, show decide (("hook" : PySem.Str) = "cut") = false by decide +kernel]; rfl, by simp; omega, by omega, fun p h => .hook p (by omega)⟩
  · exact ⟨"join", true, n - 1, rfl, fun h => by rw [ne_strC h ok_join ok_cut, show decide (("join" : PySem.Str) = "cut") = false by decide +kernel]; rfl, by simp; omega, by omega, fun p h => .join p (by omega)⟩
  · exact ⟨"swap", true, n - 1, rfl, fun h => by rw [ne_strC h ok_swap ok_cut, show decide (("swap" : PySem.Str) = "cut") = false by decide +kernel]; rfl, by simp; omega, by omega, fun p h => .swap p (by omega)⟩
end K97

set_option maxRecDepth 100000
namespace K97
open Z Fig
theorem A0 {cs gs : List Int} {s : Nat} (hc : cs.length = 64) (g : Hip) : StA (stO 1 2 s :: .lst (vI cs) :: .lst (vI gs) :: g) 0 1 2 cs gs s := ⟨rfl, rfl, rfl, by decide, by decide, by decide, hc⟩
theorem go0 {cs gs gs' : List Int} {s s' : Nat} (g : Hip) : goOn (stO 1 2 s :: .lst (vI cs) :: .lst (vI gs) :: g) 0 1 2 cs gs' s' = stO 1 2 s' :: .lst (vI cs) :: .lst (vI gs') :: g := rfl
/-- the state after some draws, with a rest that stays -/
def Iv (cs : List Int) (s : Nat) (g : Hip) (k : Nat) (h : Hip) : Prop := ∃ (gs : List Int) (s' : Nat), s' ≤ s + k ∧ h = stO 1 2 s' :: .lst (vI cs) :: .lst (vI gs) :: g
/-- a call in which the state goes on -/
theorem st_call {P : Pg} {d f a b c : Nat} {fd : FD} {h : Hip} {cs gs gs' : List Int} {s s' : Nat} {vs : List Val} {v : Val} {ρ : Env} {g : Hip} (hf : P.fn f = some fd) (hl : vs.length + 1 = fd.np) (hv : refsVs vs = []) (A : StA h a b c cs gs s) (nv : refsV v = [])
    (hr : exSs P (callF P d) fd.body (some (.ref 0) :: vs.map some ++ List.replicate (fd.ns - fd.np) none) [stO 1 2 s, .lst (vI cs), .lst (vI gs)] = .ok (.ret v, ρ) (stO 1 2 s' :: .lst (vI cs) :: .lst (vI gs') :: g)) :
    callF P (d + 1) f (.ref a :: vs) h = .ok v (goOn h a b c cs gs' s') :=
  call3 hf hl hv A.ab A.ac A.bc A.o A.p A.q st_refs (vI_refs _) (vI_refs _) (st_map (place3b A.ab) (place3c A.ac A.bc)) hr nv st_refs (vI_refs _) (vI_refs _) (st_map rfl rfl)
def words4 : List Val := [.str "cut", .str "hook", .str "join", .str "swap"]
theorem words4_W : ∀ v ∈ words4, Word v := fun v m => by
  simp only [words4, List.mem_cons, List.not_mem_nil, or_false] at m
  rcases m with rfl | rfl | rfl | rfl
  · exact .cut
  · exact .hook
  · exact .join
  · exact .swap
theorem c33 (w d : Nat) {h : Hip} {a b c : Nat} {cs gs : List Int} {s : Nat} (A : StA h a b c cs gs s) (hs : s < 1000000000) {n : Nat} (hn : n ≤ 5) :
    ∃ (l gs' : List Int) (s' : Nat), Fg n l ∧ s' ≤ s + 10 ∧ callF (P w) (d + 3) 33 [.ref a, .int n] h = .ok (.tup (vI l)) (goOn h a b c cs gs' s') := by
  have hm : mulOk 2 (n : Int) = true := mulOk_l (by decide)
  have e2n : (2 : Int) * (n : Int) = ((2 * n : Nat) : Int) := by omega
  obtain ⟨ys, h', ⟨gs', s', hs', rfl⟩, Q', ly, em⟩ := lcL_all (k := ⟨vI ((List.range (2 * n)).map fun i : Nat => (i : Int)), none⟩) (f := compStep (.nm 2) (wipes [some (.ref 0), some (.int n), none] [2]) (evC (P w) (callF (P w) (d + 2)) b33_0) (evE (P w) (callF (P w) (d + 2)) b33_1)) (I := Iv cs s []) (Q := fun y => ∃ k : Int, y = .int k) 200 (fun _ _ _ _ => rfl) (vI ((List.range (2 * n)).map fun i : Nat => (i : Int))) [] 0 0 [stO 1 2 s, .lst (vI cs), .lst (vI gs)] (by simp; omega) ⟨gs, s, by omega, rfl⟩ (fun y m => by cases m) (fun x hx j h hj hI => by
      obtain ⟨gs2, s2, hs2, rfl⟩ := hI
      obtain ⟨k, gs3, k0, k1, e21⟩ := c21 w d (A0 (gs := gs2) (s := s2) A.l []) (1 + 2 * (n : Int)) (by omega) (by omega) (by omega)
      rw [go0] at e21
      exact ⟨.int k, _, ⟨gs3, s2 + 1, by omega, rfl⟩, ⟨k, rfl⟩, comp_no rfl (ec_call (es_cons (e_var rfl) (es_cons (e_2 e_con (e_2 e_con (e_var rfl) (mul_int hm)) add_int) es_nil)) e21)⟩) (by simp; omega)
  obtain ⟨l, rfl⟩ := vals_ints Q'
  rw [vI_len, vI_len, List.length_map, List.length_range, List.length_nil, Nat.zero_add] at ly
  rw [vI_len, List.length_map, List.length_range] at hs'
  refine ⟨nam l, gs', s', nam_fg ly, by omega, st_call (fd := d33) (vs := [.int n]) (ρ := [some (.ref 0), some (.int n), none]) (g := [.lst (vI l)]) rfl rfl rfl A (by simp only [refsV, vI_refs]) ?_⟩
  have rg : rangeOf [.int (2 * (n : Int))] = some (vI ((List.range (2 * n)).map fun i : Nat => (i : Int))) := by rw [e2n]; exact range_nat (by omega)
  exact x_ret (ec_call (es_cons (ec_lc (i_range (es_cons (e_2 e_con (e_var rfl) (mul_int hm)) es_nil) rg) em) es_nil) (c25 w (d + 1) 3 (by omega) rfl))
end K97

set_option maxRecDepth 100000
namespace K97
open Z Fig
theorem c24 (w d : Nat) {v : Val} {c : Nat} (fv : Fl v) (sv : Sh c v) (hc : c < 16777216) (h : Hip) : callF (P w) (d + 1) 24 [v, v] h = .ok (.bl true) h := by
  refine call_pure (fd := d24) rfl rfl (by simp only [refsVs, fv.r, List.append_nil]) (ρ := [some v, some v]) (g := []) ?_ (by simp only [refsV]) h
  have r := repr_of (fl_deepV fv []) (fl_shal fv) sv hc
  exact x_ret (e_cmp (e_1 (e_var rfl) r) (e_1 (e_var rfl) r) (eq_same _ sv.o))
/-- a call that looks at two lists -/
theorem call_two {P : Pg} {d f a b : Nat} {fd : FD} {xs ys : List Val} {v : Val} {ρ : Env} {g h : Hip} (hf : P.fn f = some fd) (hl : 2 = fd.np) (ab : a ≠ b) (ha : h[a]? = some (.lst xs)) (hb : h[b]? = some (.lst ys)) (rx : refsVs xs = []) (ry : refsVs ys = [])
    (hr : exSs P (callF P d) fd.body ([some (.ref 0), some (.ref 1)] ++ List.replicate (fd.ns - fd.np) none) [.lst xs, .lst ys] = .ok (.ret v, ρ) (.lst xs :: .lst ys :: g)) (nv : refsV v = []) : callF P (d + 1) f [.ref a, .ref b] h = .ok v h := by
  have p0 : Z.place [a, b] a = some 0 := by simp [Z.place, List.idxOf?, List.findIdx?_cons]
  have p1 : Z.place [a, b] b = some 1 := by simp [Z.place, List.idxOf?, List.findIdx?_cons, ab]
  have e1 : enterC [.ref a, .ref b] h = some ([a, b], [.ref 0, .ref 1], [.lst xs, .lst ys]) := by
    unfold enterC
    have r : refsVs [.ref a, .ref b] = [a, b] := by simp only [refsVs, refsV]; rfl
    have rc : reach h RF [a, b] [] = [a, b] := by
      rw [reach_cons RF_pos]
      simp only [List.contains_nil, if_neg Bool.false_ne_true, ha, refsO, rx, List.append_nil, List.nil_append]
      rw [reach_cons (by decide), if_neg (by rw [cnt1 ab]; exact Bool.false_ne_true)]
      simp only [hb, refsO, ry, List.append_nil]
      rw [reach_nil (by decide)]
      rfl
    simp only [r, rc]
    simp only [mapVs, mapV, p0, p1, Option.map_some, takeO, ha, hb, Option.bind_some, lst_map rx, lst_map ry]
  have e3 : leaveC [a, b] v (.lst xs :: .lst ys :: g) h = .ok v h := by
    unfold leaveC
    have tk : refsAll ((.lst xs :: .lst ys :: g : Hip).take 2) = [] := by
      show refsVs xs ++ (refsVs ys ++ []) = _
      rw [rx, ry]; rfl
    simp only [nv, List.length_cons, List.length_nil, Nat.zero_add, Nat.reduceAdd, tk, List.nil_append, reach_nil RF_pos, List.filter_nil]
    rw [mapV_none nv, show List.range 2 = [0, 1] from rfl]
    simp only [takeO, List.getElem?_cons_succ, List.getElem?_cons_zero, Option.bind_some, lst_map rx, lst_map ry, putO, List.append_nil]
    rw [set_self ha, set_self hb]
  exact call_of hf hl e1 (run_ret hr) e3
theorem c24l (w d : Nat) {a b : Nat} {xs : List Val} {c : Nat} {h : Hip} (ab : a ≠ b) (ha : h[a]? = some (.lst xs)) (hb : h[b]? = some (.lst xs)) (fx : ∀ x ∈ xs, Fl x) (sx : ∀ x ∈ xs, Sh c x) (hc : xs.length * (c + 2) + 3 < 16777216) : callF (P w) (d + 1) 24 [.ref a, .ref b] h = .ok (.bl true) h := by
  refine call_two (fd := d24) (ρ := [some (.ref 0), some (.ref 1)]) (g := []) rfl rfl ab ha hb (fl_refs fx) (fl_refs fx) ?_ (by simp only [refsV])
  have r0 := repr_of (h := [.lst xs, .lst xs]) (v := .ref 0) (fl_deepR fx rfl) (fl_shallow fx) (sh_lv sx) hc
  have r1 := repr_of (h := [.lst xs, .lst xs]) (v := .ref 1) (fl_deepR fx rfl) (fl_shallow fx) (sh_lv sx) hc
  exact x_ret (e_cmp (e_1 (e_var rfl) r0) (e_1 (e_var rfl) r1) (eq_same _ (sh_lv sx).o))
end K97

set_option maxRecDepth 100000
namespace K97
open Z Fig
/-! leftovers of powers; rings -/
section
variable {n m f : Nat} {fig : List Int} {ls : List Int}
theorem ph_callG (d K : Nat) {fd : FD} {vs : List Val} {v : Val} {ρ : Env} {g : Hip} (hf : (P 100).fn K = some fd) (hl : vs.length + 1 = fd.np) (hv : refsVs vs = []) (nv : refsV v = [])
    (hr : exSs (P 100) (callF (P 100) d) fd.body (some (.ref 0) :: vs.map some ++ List.replicate (fd.ns - fd.np) none) (PH n fig (.int f) (pws n fig m) ls) = .ok (.ret v, ρ) (PH n fig (.int f) (pws n fig m) ls ++ g)) :
    callF (P 100) (d + 1) K (.ref 0 :: vs) (PH n fig (.int f) (pws n fig m) ls) = .ok v (PH n fig (.int f) (pws n fig m) ls) :=
  call3 (a := 0) (b := 1) (c := 2) (g := g) hf hl hv (by decide) (by decide) (by decide) rfl rfl rfl (ph_refs _) (vT_refs _) (vI_refs _) (ph_map (f := Z.place [0, 1, 2]) rfl rfl _) hr nv (ph_refs _) (vT_refs _) (vI_refs _) (ph_map (f := backTo [0, 1, 2] [] 3) rfl rfl _)
theorem sum_at {h : Hip} {a : Nat} {l : List Int} (e : h[a]? = some (.lst (vI l))) : biOp .sum [.ref a] h = .ok (.int l.sum) h := by
  show ok? ((lstAt h (.ref a)).bind ints?) (fun is => Val.int is.sum) h = _
  have e1 : lstAt h (.ref a) = some (vI l) := by unfold lstAt; simp only [e]
  rw [e1, Option.bind_some, ints_vI]; rfl
theorem lsl_sum (n : Nat) (fig : List Int) : ∀ k, (lsl n fig k).sum = (Tl n fig k : Nat)
  | 0 => rfl
  | k + 1 => by
    rw [lsl_succ, List.sum_append, lsl_sum n fig k]
    show _ + (((left n (pw n fig k) fig : Nat) : Int) + 0) = ((Tl n fig k + left n (pw n fig k) fig : Nat) : Int)
    omega
theorem lsl_take (n : Nat) (fig : List Int) {k m : Nat} (h : k ≤ m) : (lsl n fig m).take k = lsl n fig k := by
  unfold lsl
  rw [← List.map_take, List.take_range, Nat.min_eq_left h]
theorem lsl_split (n : Nat) (fig : List Int) {k m : Nat} (h : k ≤ m) : ((lsl n fig m).drop k).sum = (Tl n fig m : Int) - Tl n fig k := by
  have e := congrArg List.sum (List.take_append_drop k (lsl n fig m))
  rw [List.sum_append, lsl_take n fig h, lsl_sum, lsl_sum] at e
  omega
theorem e_divmod {P : Pg} {cf : CF} {ρ : Env} {h h1 h2 : Hip} {a b : IE} {i j : Int} (ha : evE P cf a ρ h = .ok (.int i) h1) (hb : evE P cf b ρ h1 = .ok (.int j) h2) (j0 : 0 < j) (j1 : j < 1073741824) : evE P cf (.bi .divmod (.cons a (.cons b .nil))) ρ h = .ok (.tup [.int (i / j), .int (i % j)]) h2 := by
  refine e_bi (es_cons ha (es_cons hb es_nil)) ?_
  show fDivmod [.int i, .int j] h2 = _
  unfold fDivmod
  simp only [decide_eq_true j0, decide_eq_true j1, Bool.and_self, if_pos]
theorem c37 (d : Nat) (r : Rd n fig m f) {k : Nat} (hk : k ≤ 1000000000) : callF (P 100) (d + 1) 37 [.ref 0, .int k] (PH n fig (.int f) (pws n fig m) (lsl n fig m)) = .ok (.int (Tl n fig k : Nat)) (PH n fig (.int f) (pws n fig m) (lsl n fig m)) := by
  have hfm := r.lt
  have hm := r.le
  have ll := lsl_len n fig m
  have l := len_I (h := PH n fig (.int f) (pws n fig m) (lsl n fig m)) (a := 2) (xs := lsl n fig m) rfl
  rw [ll] at l
  have le := le_int (k : Int) (m : Int) (PH n fig (.int f) (pws n fig m) (lsl n fig m))
  by_cases c : k ≤ m
  · rw [decide_eq_true (by omega)] at le
    refine ph_callG d 37 (fd := d37) (vs := [.int k]) (g := [.lst (vI (lsl n fig k))]) (ρ := [some (.ref 0), some (.int k), some (.ref 2), none, none, none]) rfl rfl rfl rfl ?_
    show exSs (P 100) (callF (P 100) d) (dropS 0 b37) [some (.ref 0), some (.int k), none, none, none, none] _ = _
    refine x_at rfl (s_asg (e_fld (e_var rfl) rfl rfl rfl) rfl) rfl ?_
    have sl := sl_lo (h := PH n fig (.int f) (pws n fig m) (lsl n fig m)) (a := 2) (n := k) (l := lsl n fig m) rfl (by omega)
    rw [lsl_take n fig c] at sl
    have sm := sum_at (h := PH n fig (.int f) (pws n fig m) (lsl n fig m) ++ [.lst (vI (lsl n fig k))]) (a := 3) (l := lsl n fig k) rfl
    rw [lsl_sum] at sm
    exact x_if (s_ifT (e_cmp (e_var rfl) (e_1 (e_var rfl) l) le) (x_ret (e_1 (e_slHi (e_var rfl) (e_var rfl) sl) sm)))
  · rw [decide_eq_false (by omega)] at le
    have ll2 : ((lsl n fig m).drop f).length = m - f := by rw [List.length_drop, ll]
    have q0 : ((k : Int) - f) / (((m - f : Nat) : Int)) = (((k - f) / (m - f) : Nat) : Int) := by
      rw [show (k : Int) - f = ((k - f : Nat) : Int) by omega]; rfl
    have r0 : ((k : Int) - f) % (((m - f : Nat) : Int)) = (((k - f) % (m - f) : Nat) : Int) := by
      rw [show (k : Int) - f = ((k - f : Nat) : Int) by omega]; rfl
    have rl := Nat.mod_lt (k - f) (show 0 < m - f by omega)
    have ql : (k - f) / (m - f) ≤ k - f := Nat.div_le_self _ _
    have e0 := Nat.mod_add_div (k - f) (m - f)
    have pT := r.persT ((k - f) % (m - f)) ((k - f) / (m - f))
    generalize (k - f) / (m - f) = q at *
    generalize (k - f) % (m - f) = s at *
    have ek : f + s + q * (m - f) = k := by rw [Nat.mul_comm]; omega
    rw [ek] at pT
    refine ph_callG d 37 (fd := d37) (vs := [.int k]) (g := [.lst (vI ((lsl n fig m).drop f)), .lst (vI (lsl n fig f)), .lst (vI (((lsl n fig m).drop f).take s))]) (ρ := [some (.ref 0), some (.int k), some (.ref 2), some (.ref 3), some (.int q), some (.int s)]) rfl rfl rfl rfl ?_
    show exSs (P 100) (callF (P 100) d) (dropS 0 b37) [some (.ref 0), some (.int k), none, none, none, none] _ = _
    refine x_at rfl (s_asg (e_fld (e_var rfl) rfl rfl rfl) rfl) rfl ?_
    refine x_at rfl (s_ifF (e_cmp (e_var rfl) (e_1 (e_var rfl) l) le) x_nil) rfl ?_
    have s1 := sl_hi (h := PH n fig (.int f) (pws n fig m) (lsl n fig m)) (a := 2) (n := f) (l := lsl n fig m) rfl (by omega)
    refine x_at rfl (s_asg (e_slLo (e_var rfl) (e_fld (e_var rfl) rfl rfl rfl) s1) rfl) rfl ?_
    have l2 := len_I (h := PH n fig (.int f) (pws n fig m) (lsl n fig m) ++ [.lst (vI ((lsl n fig m).drop f))]) (a := 3) (xs := (lsl n fig m).drop f) rfl
    rw [ll2] at l2
    refine x_at rfl (s_asg (ρ' := [some (.ref 0), some (.int k), some (.ref 2), some (.ref 3), some (.int q), some (.int s)]) (e_divmod (e_2 (e_var rfl) (e_fld (e_var rfl) rfl rfl rfl) sub_int) (e_1 (e_var rfl) l2) (by omega) (by omega)) (by rw [q0, r0]; rfl)) rfl ?_
    have s2 := sl_lo (h := PH n fig (.int f) (pws n fig m) (lsl n fig m) ++ [.lst (vI ((lsl n fig m).drop f))]) (a := 2) (n := f) (l := lsl n fig m) rfl (by omega)
    rw [lsl_take n fig (by omega)] at s2
    have s3 := sl_lo (h := PH n fig (.int f) (pws n fig m) (lsl n fig m) ++ [.lst (vI ((lsl n fig m).drop f)), .lst (vI (lsl n fig f))]) (a := 3) (n := s) (l := (lsl n fig m).drop f) rfl (by omega)
    have m1 := sum_at (h := PH n fig (.int f) (pws n fig m) (lsl n fig m) ++ [.lst (vI ((lsl n fig m).drop f)), .lst (vI (lsl n fig f))]) (a := 4) (l := lsl n fig f) rfl
    have m2 := sum_at (h := PH n fig (.int f) (pws n fig m) (lsl n fig m) ++ [.lst (vI ((lsl n fig m).drop f)), .lst (vI (lsl n fig f))]) (a := 3) (l := (lsl n fig m).drop f) rfl
    have m3 := sum_at (h := PH n fig (.int f) (pws n fig m) (lsl n fig m) ++ [.lst (vI ((lsl n fig m).drop f)), .lst (vI (lsl n fig f)), .lst (vI (((lsl n fig m).drop f).take s))]) (a := 5) (l := ((lsl n fig m).drop f).take s) rfl
    have t3 : (((lsl n fig m).drop f).take s).sum = (Tl n fig (f + s) : Int) - Tl n fig f := by
      have : ((lsl n fig m).drop f).take s = (lsl n fig (f + s)).drop f := by
        rw [← lsl_take n fig (show f + s ≤ m by omega), List.drop_take, show f + s - f = s by omega]
      rw [this, lsl_split n fig (by omega)]
    rw [lsl_sum] at m1
    rw [lsl_split n fig (by omega)] at m2
    rw [t3] at m3
    have eT : ((Tl n fig k : Nat) : Int) = (Tl n fig f : Nat) + (q : Int) * ((Tl n fig m : Int) - Tl n fig f) + ((Tl n fig (f + s) : Int) - Tl n fig f) := by
      have pT : ((Tl n fig k + q * Tl n fig f : Nat) : Int) = ((Tl n fig (f + s) + q * Tl n fig m : Nat) : Int) := by rw [pT]
      rw [Int.natCast_add, Int.natCast_add, Int.natCast_mul, Int.natCast_mul] at pT
      rw [Int.mul_sub]
      omega
    rw [eT]
    exact x_ret (e_2 (e_2 (e_1 (e_slHi (e_var rfl) (e_fld (e_var rfl) rfl rfl rfl) s2) m1) (e_2 (e_var rfl) (e_1 (e_var rfl) m2) (mul_int (mulOk_l (by omega)))) add_int) (e_1 (e_slHi (e_var rfl) (e_var rfl) s3) m3) add_int)
end
section
variable {n : Nat} {fig : List Int}
theorem c38 (d : Nat) (hn1 : 1 ≤ n) (hn : n ≤ 5) (fg : Fg n fig) {k : Nat} (hk : k ≤ 1000000000) (h : Hip) : callF (P 100) (d + 6) 38 [.int n, .tup (vI fig), .int k] h = .ok (.int (Tl n fig k : Nat)) h := by
  obtain ⟨m, f, r⟩ := rd_ex hn fg
  obtain ⟨ls, rfl, e⟩ := c15 d hn1 hn fg r
  refine call_pure (fd := d38) rfl rfl (by simp [refsVs, refsV]) (ρ := [some (.int n), some (.tup (vI fig)), some (.int k), some (.ref 0)]) (g := PH n fig (.int f) (pws n fig m) (lsl n fig m)) ?_ (by simp [refsV]) h
  show exSs (P 100) (callF (P 100) (d + 5)) (dropS 0 b38) [some (.int n), some (.tup (vI fig)), some (.int k), none] [] = _
  refine x_at rfl (s_asg (ec_call (es_cons (e_var rfl) (es_cons (e_var rfl) es_nil)) e) rfl) rfl ?_
  exact x_ret (ec_meth (e_var rfl) rfl rfl rfl (es_cons (ec_call (es_cons (e_var rfl) es_nil) (c14 (d + 2) k hk _)) es_nil) (c37 (d + 4) r hk))
/-! rings -/
theorem ring39 (w : Nat) (cf : CF) (l0 : List Int) (hl : l0.length = 2 * n) (hn : n ≤ 5) (it : Wk) (hat : ∀ j h, it.at j h = true) (v1 : Val) : ∀ (m k i a : Nat) (h : Hip) (p q r : Option Val), k + m = n → h[a]? = some (.lst (vI (rmks n l0 k))) →
    ∃ (a' : Nat) (h' : Hip) (p' q' r' : Option Val), h'[a']? = some (.lst (vI (rmks n l0 n))) ∧ forL it (loopStep (.nm 3) (exSs (P w) cf b39_2)) i (vI ((List.range' k m).map fun i : Nat => (i : Int)))
      [some (.int n), some v1, some (.ref a), p, q, r, none] h = .ok (.nx, [some (.int n), some v1, some (.ref a'), p', q', r', none]) h'
  | 0, k, i, a, h, p, q, r, hk, e => by
    have : k = n := by omega
    subst this
    exact ⟨a, h, p, q, r, e, by show forL it _ i [] _ _ = _; unfold forL; rw [if_pos (hat _ _)]⟩
  | m + 1, k, i, a, h, p, q, r, hk, e => by
    have ll : (rmks n l0 k).length = 2 * n := by rw [rmks_len, hl]
    have i1 := ix_lstA (x := (k : Int)) e (by omega) (by rw [ll]; omega)
    have i2 := ix_lstA (x := (n : Int) + (k : Int)) e (by omega) (by rw [ll]; omega)
    rw [Int.toNat_natCast] at i1
    rw [show ((n : Int) + (k : Int)).toNat = n + k by omega] at i2
    have ne := ne_intC ((rmks n l0 k).getD k 0) ((rmks n l0 k).getD (n + k) 0) h
    have ek : rmks n l0 (k + 1) = rmk n (rmks n l0 k) k := rfl
    rw [List.range'_succ, List.map_cons, vI_cons]
    by_cases c : (rmks n l0 k).getD k 0 = (rmks n l0 k).getD (n + k) 0
    · rw [decide_eq_true c] at ne
      rw [rmk_same c] at ek
      rw [← ek] at e
      obtain ⟨a', h', p', q', r', e', ih⟩ := ring39 w cf l0 hl hn it hat v1 m (k + 1) (i + 1) a h (some (.int (k : Nat))) (some (.int ((rmks n l0 k).getD k 0))) (some (.int ((rmks n l0 k).getD (n + k) 0))) (by omega) e
      refine ⟨a', h', p', q', r', e', ?_⟩
      unfold forL
      rw [if_pos (hat _ _)]
      have b : loopStep (.nm 3) (exSs (P w) cf b39_2) (.int (k : Nat)) [some (.int n), some v1, some (.ref a), p, q, r, none] h = .ok (.nx, [some (.int n), some v1, some (.ref a), some (.int (k : Nat)), some (.int ((rmks n l0 k).getD k 0)), some (.int ((rmks n l0 k).getD (n + k) 0)), none]) h := by
        show exSs (P w) cf b39_2 [some (.int n), some v1, some (.ref a), some (.int (k : Nat)), q, r, none] h = _
        refine (x_cons (s_asg (e_tup (es_cons (e_ix (e_var rfl) (e_var rfl) i1) (es_cons (e_ix (e_var rfl) (e_2 (e_var rfl) (e_var rfl) add_int) i2) es_nil)) rfl) rfl)).trans ?_
        exact x_last (s_ifF (e_cmp (e_var rfl) (e_var rfl) ne) x_nil)
      rw [b]
      exact ih
    · rw [decide_eq_false c] at ne
      have e2 : (h ++ [.lst (vI (rmks n l0 (k + 1)))])[h.length]? = some (.lst (vI (rmks n l0 (k + 1)))) := get_new
      obtain ⟨a', h', p', q', r', e', ih⟩ := ring39 w cf l0 hl hn it hat v1 m (k + 1) (i + 1) h.length (h ++ [.lst (vI (rmks n l0 (k + 1)))]) (some (.int (k : Nat))) (some (.int ((rmks n l0 k).getD k 0))) (some (.int ((rmks n l0 k).getD (n + k) 0))) (by omega) e2
      refine ⟨a', h', p', q', r', e', ?_⟩
      unfold forL
      rw [if_pos (hat _ _)]
      have lcm := lc_ints (k := ⟨vI (rmks n l0 k), some a⟩) (f := compStep (.nm 6) (wipes [some (.int n), some v1, some (.ref a), some (.int (k : Nat)), some (.int ((rmks n l0 k).getD k 0)), some (.int ((rmks n l0 k).getD (n + k) 0)), none] [6]) (evC (P w) cf b39_0) (evE (P w) cf b39_1)) (g := fun x => if x = (rmks n l0 k).getD (n + k) 0 then (rmks n l0 k).getD k 0 else x) (h := h) (fun i => at_src e i) (rmks n l0 k) 0 (fun x m => by
          refine comp_no rfl (e_ite (e_cmp (e_var rfl) (e_var rfl) (eq_intC _ _ _)) ?_)
          by_cases q : x = (rmks n l0 k).getD (n + k) 0
          · rw [decide_eq_true q, if_pos rfl, if_pos q]; exact e_var rfl
          · rw [decide_eq_false q, if_neg Bool.false_ne_true, if_neg q]; exact e_var rfl) (by omega)
      have b : loopStep (.nm 3) (exSs (P w) cf b39_2) (.int (k : Nat)) [some (.int n), some v1, some (.ref a), p, q, r, none] h = .ok (.nx, [some (.int n), some v1, some (.ref h.length), some (.int (k : Nat)), some (.int ((rmks n l0 k).getD k 0)), some (.int ((rmks n l0 k).getD (n + k) 0)), none]) (h ++ [.lst (vI (rmks n l0 (k + 1)))]) := by
        show exSs (P w) cf b39_2 [some (.int n), some v1, some (.ref a), some (.int (k : Nat)), q, r, none] h = _
        refine (x_cons (s_asg (e_tup (es_cons (e_ix (e_var rfl) (e_var rfl) i1) (es_cons (e_ix (e_var rfl) (e_2 (e_var rfl) (e_var rfl) add_int) i2) es_nil)) rfl) rfl)).trans ?_
        exact x_last (s_ifT (e_cmp (e_var rfl) (e_var rfl) ne) (x_last (s_asg (ec_lc (i_seq (e_var rfl) (walkR e)) lcm) rfl)))
      rw [b]
      exact ih
theorem list_tup (l : List Int) (h : Hip) : biOp .listOf [.tup (vI l)] h = alloc (.lst (vI l)) h := rfl
theorem c39 (w d : Nat) (hn : n ≤ 5) (hl : fig.length = 2 * n) (h : Hip) : callF (P w) (d + 1) 39 [.int n, .tup (vI fig)] h = .ok (.ref h.length) (h ++ [.lst (vI ((rmks n fig n).take n))]) := by
  obtain ⟨a, H, p', q', r', eH, el⟩ := ring39 w (callF (P w) d) fig hl hn ⟨vI ((List.range' 0 n).map fun i : Nat => (i : Int)), none⟩ (fun _ _ => rfl) (.tup (vI fig)) n 0 0 0 [.lst (vI fig)] none none none (by omega) rfl
  have r := range_nat (n := n) (by omega)
  rw [List.range_eq_range'] at r
  have b : exSs (P w) (callF (P w) d) (dropS 0 b39) [some (.int n), some (.tup (vI fig)), none, none, none, none, none] [] = .ok (.ret (.ref H.length), [some (.int n), some (.tup (vI fig)), some (.ref a), p', q', r', none]) (H ++ [.lst (vI ((rmks n fig n).take n))]) := by
    refine x_at rfl (s_asg (e_1 (e_var rfl) (list_tup fig _)) rfl) rfl ?_
    refine x_at rfl (s_loop (i_range (es_cons (e_var rfl) es_nil) r) el) rfl ?_
    exact x_ret (e_slHi (e_var rfl) (e_var rfl) (sl_lo (n := n) eH (by rw [rmks_len]; omega)))
  exact call_of (fd := d39) rfl rfl (pure_enter (by simp only [refsVs, refsV, vI_refs, List.append_nil])) (run_ret b) (leave_new get_new (vI_refs _))
theorem fold_dn : ∀ (l acc : List Int), acc.Nodup → (l.foldl (fun acc y => addTo y acc) acc).Nodup ∧ ∀ y, y ∈ l.foldl (fun acc y => addTo y acc) acc ↔ y ∈ acc ∨ y ∈ l
  | [], acc, nd => ⟨nd, fun y => by simp⟩
  | x :: l, acc, nd => by
    obtain ⟨nd2, hm⟩ := fold_dn l (addTo x acc) (addTo_nodup nd)
    refine ⟨nd2, fun y => ?_⟩
    rw [List.foldl_cons, hm, addTo_mem, List.mem_cons]
    exact ⟨fun h => h.elim (fun h => h.elim .inl fun e => .inr (.inl e)) fun m => .inr (.inr m), fun h => h.elim (fun m => .inl (.inl m)) fun h => h.elim (fun e => .inl (.inr e)) .inr⟩
theorem e_lenset {P : Pg} {cf : CF} {ρ : Env} {h h1 : Hip} {e : IE} {a : Nat} {l : List Int} (he : evE P cf e ρ h = .ok (.ref a) h1) (ha : h1[a]? = some (.lst (vI l))) (hl : l.length < 64) : evE P cf (.lenset e) ρ h = .ok (.int (dn l : Nat)) h1 := by
  have e1 : lstAt h1 (.ref a) = some (vI l) := by unfold lstAt; simp only [ha]
  have e2 : lenSet h1 (.ref a) = some (dn l) := by
    unfold lenSet
    rw [e1, Option.bind_some, ints_vI]
    show (if l.length < 64 then some _ else none) = _
    rw [if_pos hl]
    obtain ⟨nd, hm⟩ := fold_dn l [] List.nodup_nil
    rw [← dn_nodup nd, dn_same (Y := l) fun y => by rw [hm]; simp]
  simp only [evE, he, Res.bind, e2, ok?]
theorem c40 (w d : Nat) (hn : n ≤ 5) (hl : fig.length = 2 * n) (h : Hip) : callF (P w) (d + 2) 40 [.int n, .tup (vI fig)] h = .ok (.int (rgs n fig : Nat)) h := by
  refine call_pure (fd := d40) rfl rfl (by simp [refsVs, refsV]) (ρ := [some (.int n), some (.tup (vI fig))]) (g := [.lst (vI ((rmks n fig n).take n))]) ?_ (by simp [refsV]) h
  exact x_ret (e_lenset (ec_call (es_cons (e_var rfl) (es_cons (e_var rfl) es_nil)) (c39 w d hn hl [])) rfl (by rw [List.length_take]; omega))
theorem c41 (d : Nat) (hn1 : 1 ≤ n) (hn : n ≤ 5) (fg : Fg n fig) {k : Nat} (hk : k ≤ 1000000000) (h : Hip) : callF (P 100) (d + 5) 41 [.int n, .tup (vI fig), .int k] h = .ok (.int (((rgs n (pw n fig k) : Nat) : Int) + ((Tl n fig k : Nat) : Int))) h := by
  obtain ⟨m, f, r⟩ := rd_ex hn fg
  obtain ⟨ls, rfl, e⟩ := c10 d hn fg r
  refine call_pure (fd := d41) rfl rfl (by simp [refsVs, refsV]) (ρ := [some (.int n), some (.tup (vI fig)), some (.int k), some (.ref 0)]) (g := PH n fig (.int f) (pws n fig m) (lsl n fig m)) ?_ (by simp [refsV]) h
  show exSs (P 100) (callF (P 100) (d + 4)) (dropS 0 b41) [some (.int n), some (.tup (vI fig)), some (.int k), none] [] = _
  refine x_at rfl (s_expr (ec_call (es_cons (ec_call (es_cons (e_var rfl) es_nil) (c3 100 (d + 1) n (by omega) (by omega) _)) (es_cons (e_var rfl) es_nil)) (c4 100 (d + 1) fg (by omega) _))) rfl ?_
  refine x_at rfl (s_expr (ec_call (es_cons (e_var rfl) es_nil) (c14 (d + 1) k hk _))) rfl ?_
  refine x_at rfl (s_asg (ec_make (c := 1) rfl (es_cons (e_var rfl) (es_cons (e_var rfl) es_nil)) e) rfl) rfl ?_
  exact x_ret (e_2 (ec_call (es_cons (e_var rfl) (es_cons (ec_meth (e_var rfl) rfl rfl rfl (es_cons (e_var rfl) es_nil) (c13 (d + 1) r k)) es_nil)) (c40 100 (d + 2) hn (pw_fg fg k).len _)) (ec_meth (e_var rfl) rfl rfl rfl (es_cons (e_var rfl) es_nil) (c37 (d + 3) r hk)) add_int)
end
end K97

set_option maxRecDepth 100000
namespace K97
open Z Fig
/-! the law's own rings; powers by doubling -/
/-- a call that looks at one list and gives a new one -/
theorem call_one_new {P : Pg} {d f a : Nat} {fd : FD} {xs ys : List Val} {ρ : Env} {g h : Hip} {b : Nat} (hf : P.fn f = some fd) (hl : 1 = fd.np) (ha : h[a]? = some (.lst xs)) (rx : refsVs xs = []) (ry : refsVs ys = []) (hb : 1 ≤ b)
    (hr : exSs P (callF P d) fd.body ([some (.ref 0)] ++ List.replicate (fd.ns - fd.np) none) [.lst xs] = .ok (.ret (.ref b), ρ) (.lst xs :: g)) (hg : (.lst xs :: g : Hip)[b]? = some (.lst ys)) : callF P (d + 1) f [.ref a] h = .ok (.ref h.length) (h ++ [.lst ys]) := by
  have e1 : enterC [.ref a] h = some ([a], [.ref 0], [.lst xs]) := by
    unfold enterC
    have rc : reach h RF [a] [] = [a] := by
      rw [reach_cons RF_pos]
      simp only [List.contains_nil, if_neg Bool.false_ne_true, ha, refsO, rx, List.append_nil, List.nil_append]
      rw [reach_nil (by decide)]
    have p0 : Z.place [a] a = some 0 := by simp [Z.place, List.idxOf?]
    simp only [refsVs, refsV, List.append_nil, rc, mapVs, mapV, p0, Option.map_some, takeO, ha, Option.bind_some, lst_map rx]
  have e3 : leaveC [a] (.ref b) (.lst xs :: g) h = .ok (.ref h.length) (h ++ [.lst ys]) := by
    unfold leaveC
    have tk : refsAll ((.lst xs :: g : Hip).take 1) = [] := by
      show refsVs xs ++ [] = _
      rw [rx]; rfl
    have rc : reach (.lst xs :: g) RF [b] [] = [b] := by
      rw [reach_cons RF_pos]
      simp only [List.contains_nil, if_neg Bool.false_ne_true, hg, refsO, ry, List.append_nil, List.nil_append]
      rw [reach_nil (by decide)]
    have fl : [b].filter (fun i => decide (1 ≤ i)) = [b] := by simp [hb]
    have b0 : backTo [a] [b] h.length b = some h.length := by
      have : [a][b]? = none := List.getElem?_eq_none (by simpa using hb)
      simp [backTo, this, List.idxOf?, List.findIdx?_cons]
    simp only [refsV, List.length_cons, List.length_nil, Nat.zero_add, tk, List.append_nil, rc, fl, mapV, b0, Option.map_some, show List.range 1 = [0] from rfl]
    simp only [takeO, List.getElem?_cons_zero, Option.bind_some, lst_map rx, hg, lst_map ry, putO]
    rw [set_self ha]
  exact call_of hf hl e1 (run_ret hr) e3
section
variable {n : Nat} {fig : List Int}
theorem ix2_0 (a b : Val) (h : Hip) : ixOp (.tup [a, b]) (.int 0) h = some a := rfl
theorem ix2_1 (a b : Val) (h : Hip) : ixOp (.tup [a, b]) (.int 1) h = some b := rfl
/-- a power and its leftovers -/
def pT (n : Nat) (fig : List Int) (k : Nat) : Val := .tup [.tup (vI (pw n fig k)), .int (Tl n fig k : Nat)]
end
end K97

set_option maxRecDepth 100000
namespace K97
open Z Fig
/-! figures asked; ranks; rings; halves -/
theorem call_pureN {P : Pg} {d f : Nat} {fd : FD} {vs : List Val} {ρ : Env} {g : Hip} (hf : P.fn f = some fd) (hl : vs.length = fd.np) (hv : refsVs vs = [])
    (hr : exSs P (callF P d) fd.body (vs.map some ++ List.replicate (fd.ns - fd.np) none) [] = .ok (.nx, ρ) g) (h : Hip) : callF P (d + 1) f vs h = .ok .non h := by
  have e3 : leaveC [] .non g h = .ok .non h := by
    unfold leaveC
    simp only [refsV, List.length_nil, List.take_zero, refsAll, List.append_nil, reach_nil RF_pos, List.filter_nil, mapV]
    simp [takeO, putO]
  exact call_of hf hl (pure_enter hv) (run_nx hr) e3
section
variable {n : Nat} {fig : List Int}
theorem c47 (w d : Nat) (hn1 : 1 ≤ n) (hn : n ≤ 5) (fg : Fg n fig) (h : Hip) : callF (P w) (d + 4) 47 [.int n, .tup (vI fig)] h = .ok .non h := by
  refine call_pureN (fd := d47) rfl rfl (by simp [refsVs, refsV]) (ρ := [some (.int n), some (.tup (vI fig))]) (g := []) ?_ h
  show exSs (P w) (callF (P w) (d + 3)) (dropS 0 b47) [some (.int n), some (.tup (vI fig))] [] = _
  refine x_at rfl (s_expr (ec_call (es_cons (e_var rfl) es_nil) (c3 w d n (by omega) (by omega) _))) rfl ?_
  exact x_last (s_expr (ec_call (es_cons (e_var rfl) (es_cons (e_var rfl) es_nil)) (c4 w d fg (by omega) _)))
theorem c48 (w d : Nat) (hn1 : 1 ≤ n) (hn : n ≤ 5) (fg : Fg n fig) {far : List Int} (f2 : Fg n far) (h : Hip) : callF (P w) (d + 5) 48 [.int n, .tup (vI fig), .tup (vI far)] h = .ok .non h := by
  refine call_pureN (fd := d48) rfl rfl (by simp [refsVs, refsV]) (ρ := [some (.int n), some (.tup (vI fig)), some (.tup (vI far))]) (g := []) ?_ h
  show exSs (P w) (callF (P w) (d + 4)) (dropS 0 b48) [some (.int n), some (.tup (vI fig)), some (.tup (vI far))] [] = _
  refine x_at rfl (s_expr (ec_call (es_cons (e_var rfl) (es_cons (e_var rfl) es_nil)) (c47 w d hn1 hn fg _))) rfl ?_
  exact x_last (s_expr (ec_call (es_cons (e_var rfl) (es_cons (e_var rfl) es_nil)) (c4 w (d + 1) f2 (by omega) _)))
/-- a comprehension of a set by a test -/
theorem scL_f {k : Wk} {f : Val → Hip → Res (Option Val)} {p : Int → Bool} {g : Int → Int} {h : Hip} (hat : ∀ i, k.at i h = true) :
    ∀ (xs acc : List Int) (i : Nat), (∀ x ∈ xs, f (.int x) h = .ok (if p x = true then some (.int (g x)) else none) h) → acc.length + xs.length < 4000 → acc.Nodup → ∃ out, scL k f i (vI xs) acc h = .ok out h ∧ out.length ≤ acc.length + xs.length ∧ out.Nodup ∧ ∀ y, y ∈ out ↔ y ∈ acc ∨ y ∈ (xs.filter p).map g
  | [], acc, i, _, _, nd => ⟨acc, by rw [vI_nil]; unfold scL; rw [if_pos (hat i)], Nat.le_refl _, nd, fun y => by simp⟩
  | x :: xs, acc, i, st, sz, nd => by
    rw [List.length_cons] at sz
    have le := addTo_len (g x) acc
    by_cases c : p x = true
    · obtain ⟨out, e, l, nd2, hm⟩ := scL_f hat xs (addTo (g x) acc) (i + 1) (fun z m => st z (List.mem_cons_of_mem _ m)) (by omega) (addTo_nodup nd)
      refine ⟨out, ?_, by rw [List.length_cons]; omega, nd2, fun y => ?_⟩
      · rw [vI_cons]
        unfold scL
        rw [if_pos (hat i), st x List.mem_cons_self, if_pos c]
        simp only [if_pos (show acc.length < 4000 by omega)]
        exact e
      · rw [hm, addTo_mem, List.filter_cons_of_pos c, List.map_cons, List.mem_cons]
        exact ⟨fun h => h.elim (fun h => h.elim .inl fun e => .inr (.inl e)) fun m => .inr (.inr m), fun h => h.elim (fun m => .inl (.inl m)) fun h => h.elim (fun e => .inl (.inr e)) .inr⟩
    · obtain ⟨out, e, l, nd2, hm⟩ := scL_f hat xs acc (i + 1) (fun z m => st z (List.mem_cons_of_mem _ m)) (by omega) nd
      refine ⟨out, ?_, by rw [List.length_cons]; omega, nd2, fun y => ?_⟩
      · rw [vI_cons]
        unfold scL
        rw [if_pos (hat i), st x List.mem_cons_self, if_neg c]
        exact e
      · rw [hm, List.filter_cons_of_neg c]
def rank (n : Nat) (fig : List Int) : Nat := dn ((fig.take n).filter fun x => decide (x ∈ fig.drop n))
theorem among_tup (x : Int) (l : List Int) (h : Hip) : cmpOp .isin (.int x) (.tup (vI l)) h = some (decide (x ∈ l)) := by
  show amongOp h (.int x) (.tup (vI l)) = _
  unfold amongOp
  simp only [deep_int, deep_tup, items?, shallow_int, shallow_tup, Bool.and_self, if_pos, any_vI]
theorem len_set {h : Hip} {a : Nat} {xs : List Int} (e : h[a]? = some (.set xs)) (hl : xs.length < 4000) : biOp .len [.ref a] h = .ok (.int (xs.length : Nat)) h := by
  show ok? (lenOp h (.ref a)) (fun n => Val.int (n : Int)) _ = _
  unfold lenOp
  simp only [e, if_pos hl, ok?]
theorem c49 (w d : Nat) (hn : n ≤ 5) (hl : fig.length = 2 * n) (h : Hip) : callF (P w) (d + 1) 49 [.int n, .tup (vI fig)] h = .ok (.int (rank n fig : Nat)) h := by
  obtain ⟨out, e, lo, nd, hm⟩ := scL_f (k := ⟨vI (fig.take n), none⟩) (f := compStep (.nm 2) (wipes [some (.int n), some (.tup (vI fig)), none] [2]) (evC (P w) (callF (P w) d) b49_0) (evE (P w) (callF (P w) d) b49_1)) (p := fun x => decide (x ∈ fig.drop n)) (g := fun x => x) (h := []) (fun _ => rfl) (fig.take n) [] 0 (fun x m => by
      have am := among_tup x (fig.drop n) []
      by_cases c : x ∈ fig.drop n
      · rw [decide_eq_true c] at am ⊢
        exact comp_T rfl (e_cmp (e_var rfl) (e_slLo (e_var rfl) (e_var rfl) (slLo_tup (by omega) _)) am) (e_var rfl)
      · rw [decide_eq_false c] at am ⊢
        exact comp_F rfl (e_cmp (e_var rfl) (e_slLo (e_var rfl) (e_var rfl) (slLo_tup (by omega) _)) am)) (by rw [List.length_take, List.length_nil]; omega) List.nodup_nil
  have el : out.length = rank n fig := by
    unfold rank
    rw [← dn_nodup nd]
    refine dn_same fun y => ?_
    rw [hm, List.map_id']
    simp
  rw [List.length_take, List.length_nil] at lo
  refine call_pure (fd := d49) rfl rfl (by simp [refsVs, refsV]) (ρ := [some (.int n), some (.tup (vI fig)), none]) (g := [.set out]) ?_ (by simp [refsV]) h
  rw [← el]
  exact x_ret (e_1 (ec_sc (i_seq (e_slHi (e_var rfl) (e_var rfl) (slHi_tup (by omega) _)) rfl) e) (len_set rfl (by omega)))
theorem c50 (w d : Nat) (hn1 : 1 ≤ n) (hn : n ≤ 5) (fg : Fg n fig) (h : Hip) : callF (P w) (d + 5) 50 [.int n, .tup (vI fig)] h = .ok (.int (rank n fig : Nat)) h := by
  refine call_pure (fd := d50) rfl rfl (by simp [refsVs, refsV]) (ρ := [some (.int n), some (.tup (vI fig))]) (g := []) ?_ (by simp [refsV]) h
  show exSs (P w) (callF (P w) (d + 4)) (dropS 0 b50) [some (.int n), some (.tup (vI fig))] [] = _
  refine x_at rfl (s_expr (ec_call (es_cons (e_var rfl) (es_cons (e_var rfl) es_nil)) (c47 w d hn1 hn fg _))) rfl ?_
  exact x_ret (ec_call (es_cons (e_var rfl) (es_cons (e_var rfl) es_nil)) (c49 w (d + 3) hn fg.len _))
theorem c51 (d : Nat) (hn1 : 1 ≤ n) (hn : n ≤ 5) (fg : Fg n fig) {far : List Int} (f2 : Fg n far) (h : Hip) : callF (P 100) (d + 6) 51 [.int n, .tup (vI fig), .tup (vI far)] h = .ok (.int (left n fig far : Nat)) h := by
  refine call_pure (fd := d51) rfl rfl (by simp [refsVs, refsV]) (ρ := [some (.int n), some (.tup (vI fig)), some (.tup (vI far))]) (g := []) ?_ (by simp [refsV]) h
  show exSs (P 100) (callF (P 100) (d + 5)) (dropS 0 b51) [some (.int n), some (.tup (vI fig)), some (.tup (vI far))] [] = _
  refine x_at rfl (s_expr (ec_call (es_cons (e_var rfl) (es_cons (e_var rfl) (es_cons (e_var rfl) es_nil))) (c48 100 d hn1 hn fg f2 _))) rfl ?_
  have ix : ixOp (.tup [.tup (vI (lup n fig far)), .int (left n fig far : Nat)]) (.int 1) [] = some (.int (left n fig far : Nat)) := rfl
  exact x_ret (e_ix (ec_call (es_cons (e_var rfl) (es_cons (e_var rfl) (es_cons (e_var rfl) es_nil))) (c9 (d + 2) hn fg f2 _)) e_con ix)
theorem c66 (d : Nat) (hn1 : 1 ≤ n) (hn : n ≤ 5) (fg : Fg n fig) (h : Hip) : callF (P 100) (d + 4) 66 [.int n, .tup (vI fig)] h = .ok (.bl (decide (lup n fig fig = fig))) h := by
  refine call_pure (fd := d66) rfl rfl (by simp [refsVs, refsV]) (ρ := [some (.int n), some (.tup (vI fig))]) (g := []) ?_ (by simp [refsV]) h
  show exSs (P 100) (callF (P 100) (d + 3)) (dropS 0 b66) [some (.int n), some (.tup (vI fig))] [] = _
  refine x_at rfl (s_expr (ec_call (es_cons (ec_call (es_cons (e_var rfl) es_nil) (c3 100 d n (by omega) (by omega) _)) (es_cons (e_var rfl) es_nil)) (c4 100 d fg (by omega) _))) rfl ?_
  have ix : ixOp (.tup [.tup (vI (lup n fig fig)), .int (left n fig fig : Nat)]) (.int 0) [] = some (.tup (vI (lup n fig fig))) := rfl
  exact x_ret (e_cmp (e_ix (ec_call (es_cons (e_var rfl) (es_cons (e_var rfl) (es_cons (e_var rfl) es_nil))) (c9 d hn fg fg _)) e_con ix) (e_var rfl) (eq_tup _ _ _))
theorem c67 (w d : Nat) (hn1 : 1 ≤ n) (hn : n ≤ 5) (fg : Fg n fig) (h : Hip) : callF (P w) (d + 4) 67 [.int n, .tup (vI fig)] h = .ok (.int (rgs n fig : Nat)) h := by
  refine call_pure (fd := d67) rfl rfl (by simp [refsVs, refsV]) (ρ := [some (.int n), some (.tup (vI fig))]) (g := []) ?_ (by simp [refsV]) h
  show exSs (P w) (callF (P w) (d + 3)) (dropS 0 b67) [some (.int n), some (.tup (vI fig))] [] = _
  refine x_at rfl (s_expr (ec_call (es_cons (ec_call (es_cons (e_var rfl) es_nil) (c3 w d n (by omega) (by omega) _)) (es_cons (e_var rfl) es_nil)) (c4 w d fg (by omega) _))) rfl ?_
  exact x_ret (ec_call (es_cons (e_var rfl) (es_cons (e_var rfl) es_nil)) (c40 w (d + 1) hn fg.len _))
end
end K97

set_option maxRecDepth 100000
namespace K97
open Z Fig
/-! halves: what is asked of them -/
def hf (p o : List Int) : Val := .tup [.tup (vI p), .tup (vI o)]
theorem hf_refs (p o : List Int) : refsV (hf p o) = [] := by simp [hf, refsV, refsVs]
theorem is_tup (xs : List Val) (h : Hip) : biOp .isTuple [.tup xs] h = .ok (.bl true) h := by
  show ok? (some "tuple") (fun s => Val.bl (decide (s = "tuple") || (decide (s = "bool") && decide ("tuple" = "int")))) h = _
  simp [ok?]
theorem len_tup (xs : List Val) (h : Hip) : biOp .len [.tup xs] h = .ok (.int (xs.length : Nat)) h := rfl
theorem c2t (w d : Nat) {xs : List Val} (r : refsVs xs = []) (n : Int) (h : Hip) : callF (P w) (d + 1) 2 [.tup xs, .int n] h = .ok (.bl (decide ((xs.length : Int) = n))) h := by
  refine call_pure (fd := d2) rfl rfl (by simp [refsVs, refsV, r]) (ρ := [some (.tup xs), some (.int n)]) (g := []) ?_ (by simp [refsV]) h
  exact x_ret (e_and1 (e_1 (e_var rfl) (is_tup xs [])) (e_cmp (e_1 (e_var rfl) (len_tup xs [])) (e_var rfl) (eq_intC _ _ _)))
theorem pc_loop (w d : Nat) (n v : Val) : ∀ (xs seen : List Int) (i : Nat) (it : Wk) (p : Option Val) (h : Hip), (∀ j h, it.at j h = true) →
    ∃ p', forL it (loopStep (.nm 3) (exSs (P w) (callF (P w) (d + 2)) b52_0)) i
      (vI (namG seen xs)) [some n, some v, some (.int ((seen.length : Int) - 1)), p] h = .ok (.nx, [some n, some v, some (.int (((seenG seen xs).length : Int) - 1)), p']) h
  | [], seen, i, it, p, h, hat => by
    refine ⟨p, ?_⟩
    simp [namG, vI, seenG, forL, hat]
  | x :: xs, seen, i, it, p, h, hat => by
    have e1 : namG seen (x :: xs) = if x ∈ seen then (seen.idxOf x : Int) :: namG seen xs else (seen.length : Int) :: namG (seen ++ [x]) xs := rfl
    have e3 : seenG seen (x :: xs) = if x ∈ seen then seenG seen xs else seenG (seen ++ [x]) xs := rfl
    rw [e1, e3]
    by_cases m : x ∈ seen
    · rw [if_pos m, if_pos m]
      have lt := List.idxOf_lt_length_iff.mpr m
      obtain ⟨p', ih⟩ := pc_loop w d n v xs seen (i + 1) it (some (.int (seen.idxOf x : Int))) h hat
      refine ⟨p', ?_⟩
      rw [vI_cons]
      unfold forL
      rw [if_pos (hat _ _)]
      have g1 : (decide ((0 : Int) ≤ (seen.idxOf x : Int)) && decide ((seen.idxOf x : Int) ≤ (seen.length : Int) - 1 + 1)) = true := by simp; omega
      have g2 : ¬ ((seen.idxOf x : Int) > (seen.length : Int) - 1) := by omega
      simp only [b52_0, loopStep, setT, setTs, List.set, exSs, exS, evE, evEs, Res.bind, List.getElem?_cons_zero, List.getElem?_cons_succ, binOp, c1, g1, Bool.not_true, biOp, fMax2, if_neg g2, ok?]
      exact ih
    · rw [if_neg m, if_neg m]
      obtain ⟨p', ih⟩ := pc_loop w d n v xs (seen ++ [x]) (i + 1) it (some (.int (seen.length : Int))) h hat
      refine ⟨p', ?_⟩
      rw [vI_cons]
      unfold forL
      rw [if_pos (hat _ _)]
      have g1 : (decide ((0 : Int) ≤ (seen.length : Int)) && decide ((seen.length : Int) ≤ (seen.length : Int) - 1 + 1)) = true := by simp
      have g2 : ((seen.length : Int) > (seen.length : Int) - 1) := by omega
      have g3 : (((seen ++ [x]).length : Int) - 1) = (seen.length : Int) := by rw [List.length_append, List.length_singleton]; omega
      rw [g3] at ih
      simp only [b52_0, loopStep, setT, setTs, List.set, exSs, exS, evE, evEs, Res.bind, List.getElem?_cons_zero, List.getElem?_cons_succ, binOp, c1, g1, Bool.not_true, biOp, fMax2, if_pos g2, ok?]
      exact ih
theorem c52 (w d : Nat) {n : Nat} {p : List Int} (hp : nam p = p) (hl : p.length = n) (h : Hip) : callF (P w) (d + 3) 52 [.int n, .tup (vI p)] h = .ok (.bl true) h := by
  obtain ⟨p', e⟩ := pc_loop w d (.int n) (.tup (vI p)) p [] 0 ⟨vI p, none⟩ none [] (fun _ _ => rfl)
  have en : namG [] p = p := hp
  rw [en] at e
  have e2 := c2 w (d + 1) p n []
  rw [decide_eq_true (by rw [hl])] at e2
  refine call_pure (fd := d52) rfl rfl (by simp [refsVs, refsV]) (ρ := [some (.int n), some (.tup (vI p)), some (.int (((seenG [] p).length : Int) - 1)), p']) (g := []) ?_ (by simp [refsV]) h
  show exSs (P w) (callF (P w) (d + 2)) (dropS 0 b52) [some (.int n), some (.tup (vI p)), none, none] [] = _
  refine x_at rfl (s_ifF (e_not (ec_call (es_cons (e_var rfl) (es_cons (e_var rfl) es_nil)) e2)) x_nil) rfl ?_
  refine x_at rfl (s_asg (e_neg e_con) rfl) rfl ?_
  refine x_at rfl (s_loop (i_seq (e_var rfl) rfl) e) rfl ?_
  exact x_ret e_con
theorem bls_rep : ∀ n : Nat, bls? (List.replicate n (.bl true)) = some (List.replicate n true)
  | 0 => rfl
  | n + 1 => by
    rw [List.replicate_succ]
    show (bls? (List.replicate n (.bl true))).map (true :: ·) = _
    rw [bls_rep n]; rfl
theorem all_true {h : Hip} {a n : Nat} (e : h[a]? = some (.lst (List.replicate n (.bl true)))) : biOp .all [.ref a] h = .ok (.bl true) h := by
  show ok? ((lstAt h (.ref a)).bind bls?) (fun bs => Val.bl (bs.all id)) h = _
  have e1 : lstAt h (.ref a) = some (List.replicate n (.bl true)) := by unfold lstAt; simp only [e]
  rw [e1, Option.bind_some, bls_rep]
  show Res.ok (Val.bl ((List.replicate n true).all id)) h = _
  have : (List.replicate n true).all id = true := by rw [List.all_eq_true]; intro x m; exact List.eq_of_mem_replicate m
  rw [this]
theorem fm_const (v : Val) : ∀ xs : List Val, xs.filterMap (fun _ => some v) = List.replicate xs.length v
  | [] => rfl
  | x :: xs => by rw [List.filterMap_cons_some (f := fun _ => some v) (b := v) rfl, fm_const v xs]; rfl
theorem lc_true {k : Wk} {f : Val → Hip → Res (Option Val)} {h : Hip} (hat : ∀ i, k.at i h = true) (xs : List Val) (st : ∀ x ∈ xs, f x h = .ok (some (.bl true)) h) (sz : xs.length < 16777216) : lcL k f 0 xs [] h = .ok (List.replicate xs.length (.bl true)) h := by
  rw [lcL_map (φ := fun _ => some (.bl true)) hat xs [] 0 st (by simpa using sz), fm_const]; rfl
theorem max1_tup {a : Int} {r : List Int} (hr : r.length < 1000) (h : Hip) : biOp .max1 [.tup (vI (a :: r))] h = .ok (.int (r.foldl max a)) h := by
  show fMax1 [.tup (vI (a :: r))] h = _
  unfold fMax1
  simp only [deep_tup, items?, ints_vI, if_pos (show r.length < 1000000 by omega)]
theorem range_pred (m : Nat) (hm : m < 1000) : rangeOf [.int ((m : Int) - 1)] = some (vI ((List.range (m - 1)).map fun i : Nat => (i : Int))) := by
  match m with
  | 0 => rfl
  | m + 1 =>
    rw [show ((m + 1 : Nat) : Int) - 1 = (m : Int) by omega]
    exact range_nat (by omega)
theorem c53 (w d : Nat) {a : Int} {r o : List Int} (hr : r.length < 1000) (lo : o.length < 1000) (ho : ∀ x ∈ o, 0 ≤ x ∧ x ≤ r.foldl max a) (asc : ∀ i, i + 1 < o.length → o.getD i 0 < o.getD (i + 1) 0) (h : Hip) :
    callF (P w) (d + 3) 53 [.tup (vI (a :: r)), .tup (vI o)] h = .ok (.bl true) h := by
  have L1 := lc_true (k := ⟨vI o, none⟩) (f := compStep (.nm 3) (wipes [some (.tup (vI (a :: r))), some (.tup (vI o)), none, none] [3]) (evC (P w) (callF (P w) (d + 2)) b53_0) (evE (P w) (callF (P w) (d + 2)) b53_1)) (h := []) (fun _ => rfl) (vI o) (fun x m => by
    obtain ⟨y, my, rfl⟩ := List.mem_map.mp m
    have q := ho y my
    have e1 := c1 w d y 0 (r.foldl max a) []
    rw [decide_eq_true q.1, decide_eq_true q.2] at e1
    exact comp_no rfl (ec_call (es_cons (e_var rfl) (es_cons e_con (es_cons (e_1 (e_var rfl) (max1_tup hr _)) es_nil))) e1)) (by rw [vI_len]; omega)
  rw [vI_len] at L1
  have L2 := lc_true (k := ⟨vI ((List.range (o.length - 1)).map fun i : Nat => (i : Int)), none⟩) (f := compStep (.nm 2) (wipes [some (.tup (vI (a :: r))), some (.tup (vI o)), none, none] [2]) (evC (P w) (callF (P w) (d + 2)) b53_2) (evE (P w) (callF (P w) (d + 2)) b53_3)) (h := [.lst (List.replicate o.length (.bl true))]) (fun _ => rfl) (vI ((List.range (o.length - 1)).map fun i : Nat => (i : Int))) (fun x m => by
    obtain ⟨y, my, rfl⟩ := List.mem_map.mp m
    obtain ⟨i, mi, rfl⟩ := List.mem_map.mp my
    have hi := List.mem_range.mp mi
    have lt := lt_int (o.getD i 0) (o.getD (i + 1) 0) [.lst (List.replicate o.length (.bl true))]
    rw [decide_eq_true (asc i (by omega))] at lt
    have i2 := ix_tup (l := o) (i := i + 1) (by omega) [.lst (List.replicate o.length (.bl true))]
    rw [show ((i + 1 : Nat) : Int) = (i : Int) + 1 by omega] at i2
    exact comp_no rfl (e_cmp (e_ix (e_var rfl) (e_var rfl) (ix_tup (by omega) _)) (e_ix (e_var rfl) (e_2 (e_var rfl) e_con add_int) i2) lt)) (by rw [vI_len, List.length_map, List.length_range]; omega)
  have rg := range_pred o.length lo
  have ln := len_tup (vI o) [.lst (List.replicate o.length (.bl true))]
  rw [vI_len] at ln
  refine call_pure (fd := d53) rfl rfl (by simp [refsVs, refsV]) (ρ := [some (.tup (vI (a :: r))), some (.tup (vI o)), none, none]) (g := [.lst (List.replicate o.length (.bl true)), .lst (List.replicate (vI ((List.range (o.length - 1)).map fun i : Nat => (i : Int))).length (.bl true))]) ?_ (by simp [refsV]) h
  show exSs (P w) (callF (P w) (d + 2)) (dropS 0 b53) [some (.tup (vI (a :: r))), some (.tup (vI o)), none, none] [] = _
  refine x_at rfl (s_ifF (h1 := [.lst (List.replicate o.length (.bl true))]) (e_or1 (e_not (e_1 (e_var rfl) (is_tup _ _))) (e_not (e_1 (ec_lc (i_seq (e_var rfl) rfl) L1) (all_true rfl)))) x_nil) rfl ?_
  exact x_ret (e_1 (ec_lc (i_range (es_cons (e_2 (e_1 (e_var rfl) ln) e_con sub_int) es_nil) rg) L2) (all_true rfl))
/-- a half that is let -/
structure Hf (n : Nat) (p o : List Int) : Prop where
  nm : nam p = p
  len : p.length = n
  lo : o.length < 1000
  bo : ∀ x ∈ o, 0 ≤ x ∧ x ∈ p
  asc : ∀ i, i + 1 < o.length → o.getD i 0 < o.getD (i + 1) 0
theorem max_mem : ∀ (r : List Int) (a x : Int), x ∈ a :: r → x ≤ r.foldl max a
  | [], a, x, m => by rw [List.mem_singleton.mp m]; exact Int.le_refl _
  | b :: r, a, x, m => by
    show x ≤ r.foldl max (max a b)
    rcases List.mem_cons.mp m with rfl | m
    · exact Int.le_trans (Int.le_max_left _ _) (max_mem r _ _ List.mem_cons_self)
    · rcases List.mem_cons.mp m with rfl | m
      · exact Int.le_trans (Int.le_max_right _ _) (max_mem r _ _ List.mem_cons_self)
      · exact max_mem r _ x (List.mem_cons_of_mem _ m)
theorem c54 (w d : Nat) {n : Nat} {p o : List Int} (hn1 : 1 ≤ n) (hn : n ≤ 5) (f : Hf n p o) (h : Hip) : callF (P w) (d + 4) 54 [.int n, hf p o] h = .ok (hf p o) h := by
  have e2 := c2t w (d + 2) (xs := [.tup (vI p), .tup (vI o)]) (by simp [refsVs, refsV]) 2 []
  have e52 := c52 w d f.nm f.len []
  have e53 : callF (P w) (d + 3) 53 [.tup (vI p), .tup (vI o)] [] = .ok (.bl true) [] := by
    have hl := f.len
    have bo := f.bo
    match p, hl, bo with
    | [], hl, _ => exact absurd hl (by rw [List.length_nil]; omega)
    | a :: r, hl, bo =>
      rw [List.length_cons] at hl
      exact c53 w d (by omega) f.lo (fun x m => ⟨(bo x m).1, max_mem r a x (bo x m).2⟩) f.asc []
  refine call_pure (fd := d54) rfl rfl (by simp [refsVs, refsV, hf]) (ρ := [some (.int n), some (hf p o)]) (g := []) ?_ (hf_refs p o) h
  show exSs (P w) (callF (P w) (d + 3)) (dropS 0 b54) [some (.int n), some (hf p o)] [] = _
  refine x_at rfl (s_ifF (e_not (ec_call (es_cons (e_var rfl) (es_cons e_con es_nil)) e2)) x_nil) rfl ?_
  refine x_at rfl (s_ifF (e_not (ec_call (es_cons (e_var rfl) (es_cons (e_ix (e_var rfl) e_con rfl) es_nil)) e52)) x_nil) rfl ?_
  refine x_at rfl (s_ifF (e_not (ec_call (es_cons (e_ix (e_var rfl) e_con rfl) (es_cons (e_ix (e_var rfl) e_con rfl) es_nil)) e53)) x_nil) rfl ?_
  exact x_ret (e_var rfl)
theorem c55 (w d : Nat) {n : Nat} {p o : List Int} (hn1 : 1 ≤ n) (hn : n ≤ 5) (f : Hf n p o) (h : Hip) : callF (P w) (d + 5) 55 [.int n, hf p o] h = .ok (hf p o) h := by
  refine call_pure (fd := d55) rfl rfl (by simp [refsVs, refsV, hf]) (ρ := [some (.int n), some (hf p o)]) (g := []) ?_ (hf_refs p o) h
  exact x_ret (ec_call (es_cons (ec_call (es_cons (e_var rfl) es_nil) (c3 w (d + 1) n (by omega) (by omega) _)) (es_cons (e_var rfl) es_nil)) (c54 w d hn1 hn f _))
end K97

set_option maxRecDepth 100000
namespace K97
open Z Fig
/-! halves joined by an empty meeting -/
theorem eq_emp {h : Hip} {a b : Nat} (e1 : h[a]? = some (.lst (vI []))) (e2 : h[b]? = some (.lst (vI []))) : cmpOp .eq (.ref a) (.ref b) h = some true := by
  have := eq_lst (l := []) (m := []) e1 e2
  rw [decide_eq_true rfl] at this
  exact this
theorem c62 (w d : Nat) {p : List Int} (h : Hip) : callF (P w) (d + 2) 62 [hf p [], .tup []] h = .ok (.bl true) h := by
  have e2 := c2t w d (xs := []) (by simp [refsVs]) 0 []
  refine call_pure (fd := d62) rfl rfl (by simp [refsVs, refsV, hf]) (ρ := [some (hf p []), some (.tup []), some (.int 0), none]) (g := [.lst [], .lst [], .lst []]) ?_ (by simp [refsV]) h
  show exSs (P w) (callF (P w) (d + 1)) (dropS 0 b62) [some (hf p []), some (.tup []), none, none] [] = _
  refine x_at rfl (s_asg (ρ' := [some (hf p []), some (.tup []), some (.int 0), none]) (e_1 (e_ix (e_var rfl) e_con rfl) (len_tup (vI []) [])) rfl) rfl ?_
  refine x_at rfl (s_ifF (h1 := [.lst []]) (e_or1 (e_not (ec_call (es_cons (e_var rfl) (es_cons (e_var rfl) es_nil)) e2)) (e_not (e_1 (ec_lc (k := ⟨[], none⟩) (acc := []) (i_seq (e_var rfl) rfl) rfl) (all_true (n := 0) rfl)))) x_nil) rfl ?_
  exact x_ret (e_cmp (h2 := [.lst [], .lst [], .lst []]) (e_1 (h1 := [.lst []]) (e_var rfl) (show biOp .sorted [.tup []] [.lst []] = .ok (.ref 1) [.lst [], .lst []] from rfl)) (show _ = Res.ok (.ref 2) [.lst [], .lst [], .lst []] from lr_gen (xs := []) (e_var rfl) rfl rfl) (eq_emp rfl rfl))
theorem add_tupI {l m : List Int} (hl : l.length + m.length < 16777216) (h : Hip) : binOp .add (.tup (vI l)) (.tup (vI m)) h = .ok (.tup (vI (l ++ m))) h := by
  show (if fits ((vI l).length + (vI m).length) then Res.ok (Val.tup (vI l ++ vI m)) h else .bad) = _
  rw [vI_len, vI_len, if_pos (fits_of hl), vI_app]
theorem c61 (w d : Nat) {n : Nat} {p q : List Int} (lp : p.length = n) (lq : q.length = n) (hn : n ≤ 5) (h : Hip) : callF (P w) (d + 2) 61 [hf p [], .tup [], hf q []] h = .ok (.tup (vI (zf n p q))) h := by
  let g0 : Hip := [.dct []]
  let v : List (Option Val) := [some (hf p []), some (.tup []), some (hf q []), some (.int n), some (.ref 0), none, none, none]
  have L := lc_ints (k := ⟨vI q, none⟩) (f := compStep (.nm 7) (wipes v [7]) (evC (P w) (callF (P w) (d + 1)) b61_3) (evE (P w) (callF (P w) (d + 1)) b61_4)) (g := fun x => (n : Int) + x) (h := g0) (fun _ => rfl) q 0 (fun x m => comp_no rfl (by
    show evE (P w) (callF (P w) (d + 1)) (.dget3 (.var 4) (.var 7) (.bin .add (.var 3) (.var 7))) [some (hf p []), some (.tup []), some (hf q []), some (.int n), some (.ref 0), none, none, some (.int x)] g0 = .ok (.int ((n : Int) + x)) g0
    rfl)) (by omega)
  have e5 := c5 w d (l := p ++ q.map fun x => (n : Int) + x) (by rw [List.length_append, List.length_map]; omega) (g0 ++ [.lst (vI (q.map fun x => (n : Int) + x))])
  refine call_pure (fd := d61) rfl rfl (by simp [refsVs, refsV, hf]) (ρ := v) (g := g0 ++ [.lst (vI (q.map fun x => (n : Int) + x))]) ?_ (by simp [refsV]) h
  show exSs (P w) (callF (P w) (d + 1)) (dropS 0 b61) [some (hf p []), some (.tup []), some (hf q []), none, none, none, none, none] [] = _
  have ln := len_tup (vI p) []
  rw [vI_len, lp] at ln
  refine x_at rfl (s_asg (ρ' := [some (hf p []), some (.tup []), some (hf q []), some (.int n), none, none, none, none]) (e_1 (e_ix (e_var rfl) e_con rfl) ln) rfl) rfl ?_
  refine x_at rfl (s_asg (ρ' := v) (h1 := g0) (v := .ref 0) (by rfl) rfl) rfl ?_
  exact x_ret (ec_call (es_cons (e_2 (e_ix (e_var rfl) e_con rfl) (e_1 (ec_lc (i_seq (e_ix (e_var rfl) e_con rfl) rfl) L) (tup_ref rfl)) (add_tupI (by rw [List.length_map]; omega) _)) es_nil) e5)
theorem c63 (w d : Nat) {n : Nat} {p q : List Int} (hn1 : 1 ≤ n) (hn : n ≤ 5) (fp : Hf n p []) (fq : Hf n q []) (h : Hip) : callF (P w) (d + 6) 63 [.int n, hf p [], .tup [], hf q []] h = .ok (.tup (vI (zf n p q))) h := by
  refine call_pure (fd := d63) rfl rfl (by simp [refsVs, refsV, hf]) (ρ := [some (.int n), some (hf p []), some (.tup []), some (hf q [])]) (g := []) ?_ (by simp [refsV]) h
  show exSs (P w) (callF (P w) (d + 5)) (dropS 0 b63) [some (.int n), some (hf p []), some (.tup []), some (hf q [])] [] = _
  refine x_at rfl (s_expr (ec_call (es_cons (e_var rfl) (es_cons (e_var rfl) es_nil)) (c55 w d hn1 hn fp _))) rfl ?_
  refine x_at rfl (s_ifF (e_not (ec_call (es_cons (e_var rfl) (es_cons (e_var rfl) es_nil)) (c62 w (d + 3) _))) x_nil) rfl ?_
  refine x_at rfl (s_expr (ec_call (es_cons (e_var rfl) (es_cons (e_var rfl) es_nil)) (c54 w (d + 1) hn1 hn fq _))) rfl ?_
  refine x_at rfl (s_ifF (e_cmp (e_1 (e_ix (e_var rfl) e_con rfl) (len_tup (vI []) _)) (e_1 (e_ix (e_var rfl) e_con rfl) (len_tup (vI []) _)) (by rw [ne_intC]; rfl)) x_nil) rfl ?_
  exact x_ret (ec_call (es_cons (e_var rfl) (es_cons (e_var rfl) (es_cons (e_var rfl) es_nil))) (c61 w (d + 3) fp.len fq.len hn _))
end K97

set_option maxRecDepth 100000
namespace K97
open Z Fig
/-! the halves of a figure -/
/-- a call with an object as its second thing -/
theorem call_snd {P : Pg} {d f a : Nat} {fd : FD} {xs : List Val} {x v : Val} {ρ : Env} {g h : Hip} (hf : P.fn f = some fd) (hl : 2 = fd.np) (hx : refsV x = []) (ha : h[a]? = some (.lst xs)) (ho : refsVs xs = [])
    (hr : exSs P (callF P d) fd.body ([some x, some (.ref 0)] ++ List.replicate (fd.ns - fd.np) none) [.lst xs] = .ok (.ret v, ρ) (.lst xs :: g)) (nv : refsV v = []) : callF P (d + 1) f [x, .ref a] h = .ok v h := by
  have e1 : enterC [x, .ref a] h = some ([a], [x, .ref 0], [.lst xs]) := by
    unfold enterC
    have r : refsVs [x, .ref a] = [a] := by simp only [refsVs, refsV, hx, List.nil_append, List.append_nil]
    have rc : reach h RF [a] [] = [a] := by
      rw [reach_cons RF_pos]
      simp only [List.contains_nil, if_neg Bool.false_ne_true, ha, refsO, ho, List.append_nil, List.nil_append]
      rw [reach_nil (by decide)]
    simp only [r, rc]
    have p0 : Z.place [a] a = some 0 := by simp [Z.place, List.idxOf?]
    simp only [mapVs, mapV, p0, Option.map_some, mapV_none hx, takeO, ha, Option.bind_some, lst_map ho]
  have e2 : runF P (callF P d) fd [x, .ref 0] [.lst xs] = .ok v (.lst xs :: g) := run_ret hr
  have e3 : leaveC [a] v (.lst xs :: g) h = .ok v h := by
    unfold leaveC
    simp only [nv, List.length_cons, List.length_nil, Nat.zero_add, List.take_succ_cons, List.take_zero, refsAll, refsO, ho, List.append_nil, reach_nil RF_pos, List.filter_nil]
    rw [mapV_none nv]
    have sx : h.set a (.lst xs) = h := set_self ha
    simp [takeO, putO, List.range_succ, lst_map ho, sx]
  exact call_of hf hl e1 e2 e3
theorem insI_pw {x : Int} : ∀ {l : List Int}, l.Pairwise (· < ·) → x ∉ l → (insI x l).Pairwise (· < ·)
  | [], _, _ => List.pairwise_singleton _ _
  | z :: l, h, n => by
    have hz := List.pairwise_cons.mp h
    have ne : x ≠ z := fun e => n (e ▸ List.mem_cons_self)
    unfold insI
    split
    · rename_i c
      refine List.pairwise_cons.mpr ⟨fun y m => ?_, h⟩
      rcases List.mem_cons.mp m with rfl | m
      · omega
      · have := hz.1 y m; omega
    · rename_i c
      refine List.pairwise_cons.mpr ⟨fun y m => ?_, insI_pw hz.2 fun m => n (List.mem_cons_of_mem _ m)⟩
      rcases (insI_mem _ _ _).mp m with rfl | m
      · omega
      · exact hz.1 y m
theorem lsort_mem {y : Int} : ∀ {l : List Int}, y ∈ sortI l ↔ y ∈ l
  | [] => Iff.rfl
  | x :: l => by
    show y ∈ insI x (sortI l) ↔ _
    rw [insI_mem, lsort_mem, List.mem_cons]
theorem lsort_pw : ∀ {l : List Int}, l.Nodup → (sortI l).Pairwise (· < ·)
  | [], _ => .nil
  | x :: l, h => by
    have h := List.nodup_cons.mp h
    exact insI_pw (lsort_pw h.2) fun m => h.1 (lsort_mem.mp m)
theorem pw_asc {l : List Int} (h : l.Pairwise (· < ·)) {i : Nat} (hi : i + 1 < l.length) : l.getD i 0 < l.getD (i + 1) 0 := by
  rw [List.getD_eq_getElem?_getD, List.getD_eq_getElem?_getD, List.getElem?_eq_getElem hi, List.getElem?_eq_getElem (show i < l.length by omega)]
  exact List.pairwise_iff_getElem.mp h i (i + 1) (by omega) hi (by omega)
theorem scP {k : Wk} {f : Val → Hip → Res (Option Val)} {p : Int → Bool} {g : Nat → Int} {h : Hip} (hat : ∀ i, k.at i h = true) :
    ∀ (xs acc : List Int) (s i : Nat), (∀ j x, xs[j]? = some x → f (.tup [.int ((s + j : Nat) : Int), .int x]) h = .ok (if p x = true then some (.int (g (s + j))) else none) h) → acc.length + xs.length < 4000 → acc.Nodup → ∃ out, scL k f i (pairs (Z.rng (s : Nat) xs.length) (vI xs)) acc h = .ok out h ∧ out.length ≤ acc.length + xs.length ∧ out.Nodup ∧ ∀ y, y ∈ out ↔ y ∈ acc ∨ ∃ j x, xs[j]? = some x ∧ p x = true ∧ y = g (s + j)
  | [], acc, s, i, _, _, nd => ⟨acc, by show scL k f i [] acc h = _; unfold scL; rw [if_pos (hat i)], Nat.le_refl _, nd, fun y => ⟨.inl, fun h => h.elim id fun ⟨j, x, e, _⟩ => by rw [List.getElem?_nil] at e; cases e⟩⟩
  | x :: xs, acc, s, i, st, sz, nd => by
    rw [List.length_cons] at sz
    have le := addTo_len (g s) acc
    have s0 := st 0 x rfl
    have ei : (((s : Nat) : Int) + 1) = ((s + 1 : Nat) : Int) := by omega
    have st' : ∀ j z, xs[j]? = some z → f (.tup [.int ((s + 1 + j : Nat) : Int), .int z]) h = .ok (if p z = true then some (.int (g (s + 1 + j))) else none) h := fun j z e => by
      have := st (j + 1) z e
      rw [show s + (j + 1) = s + 1 + j by omega] at this
      exact this
    have mm : ∀ y, (∃ j z, (x :: xs)[j]? = some z ∧ p z = true ∧ y = g (s + j)) ↔ (p x = true ∧ y = g s) ∨ ∃ j z, xs[j]? = some z ∧ p z = true ∧ y = g (s + 1 + j) := fun y => by
      constructor
      · rintro ⟨j, z, e, q, r⟩
        match j, e with
        | 0, e => cases e; exact .inl ⟨q, r⟩
        | j + 1, e => exact .inr ⟨j, z, e, q, by rw [r, show s + (j + 1) = s + 1 + j by omega]⟩
      · rintro (⟨q, r⟩ | ⟨j, z, e, q, r⟩)
        · exact ⟨0, x, rfl, q, r⟩
        · exact ⟨j + 1, z, e, q, by rw [r, show s + (j + 1) = s + 1 + j by omega]⟩
    rw [Nat.add_zero] at s0
    have sp : pairs (Z.rng (s : Nat) (x :: xs).length) (vI (x :: xs)) = .tup [.int (s : Nat), .int x] :: pairs (Z.rng ((s + 1 : Nat) : Int) xs.length) (vI xs) := by
      rw [← ei]; rfl
    rw [sp]
    by_cases c : p x = true
    · obtain ⟨out, e, l, nd2, hm⟩ := scP hat xs (addTo (g s) acc) (s + 1) (i + 1) st' (by omega) (addTo_nodup nd)
      refine ⟨out, ?_, by rw [List.length_cons]; omega, nd2, fun y => ?_⟩
      · unfold scL
        rw [if_pos (hat i), s0, if_pos c]
        simp only [if_pos (show acc.length < 4000 by omega)]
        exact e
      · rw [hm, addTo_mem, mm]
        exact ⟨fun h => h.elim (fun h => h.elim .inl fun e => .inr (.inl ⟨c, e⟩)) fun m => .inr (.inr m), fun h => h.elim (fun m => .inl (.inl m)) fun h => h.elim (fun e => .inl (.inr e.2)) .inr⟩
    · obtain ⟨out, e, l, nd2, hm⟩ := scP hat xs acc (s + 1) (i + 1) st' (by omega) nd
      refine ⟨out, ?_, by rw [List.length_cons]; omega, nd2, fun y => ?_⟩
      · unfold scL
        rw [if_pos (hat i), s0, if_neg c]
        exact e
      · rw [hm, mm]
        exact ⟨fun h => h.elim .inl fun m => .inr (.inr m), fun h => h.elim .inl fun h => h.elim (fun e => (c e.1).elim) .inr⟩
theorem sort_set {h : Hip} {a : Nat} {out : List Int} (e : h[a]? = some (.set out)) (l : out.length < 64) : biOp .sorted [.ref a] h = .ok (.ref h.length) (h ++ [.lst (vI (sortI out))]) := by
  show (match intsIn h (.ref a) with | some is => alloc (.lst ((sortI is).map .int)) h | none => .bad) = _
  have e1 : intsIn h (.ref a) = some out := by unfold intsIn; simp only [e, if_pos l]
  rw [e1]; rfl
/-- a half of two lists -/
structure HI (near far o : List Int) : Prop where
  pw : o.Pairwise (· < ·)
  le : o.length ≤ near.length
  mem : ∀ x, x ∈ o ↔ ∃ j, j < near.length ∧ near.getD j 0 ∈ far ∧ x = (nam near).getD j 0
theorem c56 (w d : Nat) {near far : List Int} (ln : near.length < 60) : ∃ o, HI near far o ∧ ∀ h, callF (P w) (d + 2) 56 [.tup (vI near), .tup (vI far)] h = .ok (hf (nam near) o) h := by
  have nl := nam_len near
  let v : List (Option Val) := [some (.tup (vI near)), some (.tup (vI far)), some (.tup (vI (nam near))), none, none, none]
  obtain ⟨out, e, lo, nd, hm⟩ := scP (k := ⟨pairs (Z.rng 0 (vI near).length) (vI near), none⟩) (f := compStep (.tp [4, 5]) (wipes v [4, 5]) (evC (P w) (callF (P w) (d + 1)) b56_0) (evE (P w) (callF (P w) (d + 1)) b56_1)) (p := fun x => decide (x ∈ far)) (g := fun j => (nam near).getD j 0) (h := []) (fun _ => rfl) near [] 0 0 (fun j x ex => by
      have hj : j < near.length := (List.getElem?_eq_some_iff.mp ex).1
      have am := among_tup x far []
      have ix := ix_tup (l := nam near) (i := j) (by omega) []
      rw [Nat.zero_add]
      by_cases c : x ∈ far
      · rw [decide_eq_true c] at am ⊢
        exact comp_T (ρ' := [some (.tup (vI near)), some (.tup (vI far)), some (.tup (vI (nam near))), none, some (.int (j : Nat)), some (.int x)]) rfl (e_cmp (e_var rfl) (e_var rfl) am) (e_ix (e_var rfl) (e_var rfl) ix)
      · rw [decide_eq_false c] at am ⊢
        exact comp_F (ρ' := [some (.tup (vI near)), some (.tup (vI far)), some (.tup (vI (nam near))), none, some (.int (j : Nat)), some (.int x)]) rfl (e_cmp (e_var rfl) (e_var rfl) am)) (by rw [List.length_nil]; omega) List.nodup_nil
  rw [List.length_nil, Nat.zero_add] at lo
  have ev : pairs (Z.rng ((0 : Nat) : Int) near.length) (vI near) = pairs (Z.rng 0 (vI near).length) (vI near) := by rw [vI_len]; rfl
  rw [ev] at e
  refine ⟨sortI out, ⟨lsort_pw nd, by rw [sortI_len]; exact lo, fun x => ?_⟩, fun h => ?_⟩
  · rw [lsort_mem, hm]
    constructor
    · rintro (m | ⟨j, y, ey, py, ex⟩)
      · cases m
      · have hj : j < near.length := (List.getElem?_eq_some_iff.mp ey).1
        rw [getD_some hj] at ey
        refine ⟨j, hj, ?_, by rw [ex, Nat.zero_add]⟩
        rw [Option.some.inj ey]; exact of_decide_eq_true py
    · rintro ⟨j, hj, m, ex⟩
      exact .inr ⟨j, _, getD_some hj, decide_eq_true m, by rw [ex, Nat.zero_add]⟩
  · refine call_pure (fd := d56) rfl rfl (by simp [refsVs, refsV]) (ρ := [some (.tup (vI near)), some (.tup (vI far)), some (.tup (vI (nam near))), some (.ref 1), none, none]) (g := [.set out, .lst (vI (sortI out))]) ?_ (hf_refs _ _) h
    show exSs (P w) (callF (P w) (d + 1)) (dropS 0 b56) [some (.tup (vI near)), some (.tup (vI far)), none, none, none, none] [] = _
    refine x_at rfl (s_asg (ρ' := v) (ec_call (es_cons (e_var rfl) es_nil) (c5 w d (by omega) _)) rfl) rfl ?_
    refine x_at rfl (s_asg (ρ' := [some (.tup (vI near)), some (.tup (vI far)), some (.tup (vI (nam near))), some (.ref 1), none, none]) (e_1 (ec_sc (k := ⟨pairs (Z.rng 0 (vI near).length) (vI near), none⟩) rfl e) (sort_set rfl (by omega))) rfl) rfl ?_
    exact x_ret (e_tup (es_cons (e_var rfl) (es_cons (e_1 (e_var rfl) (tup_ref rfl)) es_nil)) rfl)
section
variable {n : Nat} {fig : List Int}
theorem c57 (w d : Nat) (hn : n ≤ 5) (hl : fig.length = 2 * n) : ∃ o, HI (fig.take n) (fig.drop n) o ∧ ∀ h, callF (P w) (d + 3) 57 [.int n, .tup (vI fig)] h = .ok (hf (nam (fig.take n)) o) h := by
  obtain ⟨o, H, e⟩ := c56 w d (near := fig.take n) (far := fig.drop n) (by rw [List.length_take]; omega)
  refine ⟨o, H, fun h => ?_⟩
  refine call_pure (fd := d57) rfl rfl (by simp [refsVs, refsV]) (ρ := [some (.int n), some (.tup (vI fig))]) (g := []) ?_ (hf_refs _ _) h
  exact x_ret (ec_call (es_cons (e_slHi (e_var rfl) (e_var rfl) (slHi_tup (by omega) _)) (es_cons (e_slLo (e_var rfl) (e_var rfl) (slLo_tup (by omega) _)) es_nil)) (e _))
theorem c58 (w d : Nat) (hn : n ≤ 5) (hl : fig.length = 2 * n) : ∃ o, HI (fig.drop n) (fig.take n) o ∧ ∀ h, callF (P w) (d + 3) 58 [.int n, .tup (vI fig)] h = .ok (hf (nam (fig.drop n)) o) h := by
  obtain ⟨o, H, e⟩ := c56 w d (near := fig.drop n) (far := fig.take n) (by rw [List.length_drop]; omega)
  refine ⟨o, H, fun h => ?_⟩
  refine call_pure (fd := d58) rfl rfl (by simp [refsVs, refsV]) (ρ := [some (.int n), some (.tup (vI fig))]) (g := []) ?_ (hf_refs _ _) h
  exact x_ret (ec_call (es_cons (e_slLo (e_var rfl) (e_var rfl) (slLo_tup (by omega) _)) (es_cons (e_slHi (e_var rfl) (e_var rfl) (slHi_tup (by omega) _)) es_nil)) (e _))
theorem c59 (w d : Nat) (hn1 : 1 ≤ n) (hn : n ≤ 5) (fg : Fg n fig) : ∃ o, HI (fig.take n) (fig.drop n) o ∧ ∀ h, callF (P w) (d + 5) 59 [.int n, .tup (vI fig)] h = .ok (hf (nam (fig.take n)) o) h := by
  obtain ⟨o, H, e⟩ := c57 w (d + 1) hn fg.len
  refine ⟨o, H, fun h => ?_⟩
  refine call_pure (fd := d59) rfl rfl (by simp [refsVs, refsV]) (ρ := [some (.int n), some (.tup (vI fig))]) (g := []) ?_ (hf_refs _ _) h
  show exSs (P w) (callF (P w) (d + 4)) (dropS 0 b59) [some (.int n), some (.tup (vI fig))] [] = _
  refine x_at rfl (s_expr (ec_call (es_cons (e_var rfl) (es_cons (e_var rfl) es_nil)) (c47 w d hn1 hn fg _))) rfl ?_
  exact x_ret (ec_call (es_cons (e_var rfl) (es_cons (e_var rfl) es_nil)) (e _))
theorem c60 (w d : Nat) (hn1 : 1 ≤ n) (hn : n ≤ 5) (fg : Fg n fig) : ∃ o, HI (fig.drop n) (fig.take n) o ∧ ∀ h, callF (P w) (d + 5) 60 [.int n, .tup (vI fig)] h = .ok (hf (nam (fig.drop n)) o) h := by
  obtain ⟨o, H, e⟩ := c58 w (d + 1) hn fg.len
  refine ⟨o, H, fun h => ?_⟩
  refine call_pure (fd := d60) rfl rfl (by simp [refsVs, refsV]) (ρ := [some (.int n), some (.tup (vI fig))]) (g := []) ?_ (hf_refs _ _) h
  show exSs (P w) (callF (P w) (d + 4)) (dropS 0 b60) [some (.int n), some (.tup (vI fig))] [] = _
  refine x_at rfl (s_expr (ec_call (es_cons (e_var rfl) (es_cons (e_var rfl) es_nil)) (c47 w d hn1 hn fg _))) rfl ?_
  exact x_ret (ec_call (es_cons (e_var rfl) (es_cons (e_var rfl) es_nil)) (e _))
end
/-! which open ones are in a lot -/
theorem lcP {k : Wk} {f : Val → Hip → Res (Option Val)} {p : Int → Bool} {h : Hip} (hat : ∀ i, k.at i h = true) :
    ∀ (xs acc : List Int) (s i : Nat), (∀ (j : Int) x, x ∈ xs → f (.tup [.int j, .int x]) h = .ok (if p x = true then some (.int j) else none) h) → acc.length + xs.length < 16777216 → ∃ r : List Int, lcL k f i (pairs (Z.rng (s : Nat) xs.length) (vI xs)) (vI acc) h = .ok (vI (acc ++ r)) h ∧ (r = [] ↔ ∀ x ∈ xs, p x = false)
  | [], acc, s, i, _, _ => ⟨[], by show lcL k f i [] (vI acc) h = _; unfold lcL; rw [if_pos (hat i), List.append_nil], by simp⟩
  | x :: xs, acc, s, i, st, sz => by
    rw [List.length_cons] at sz
    have s0 := st (s : Nat) x List.mem_cons_self
    have ei : (((s : Nat) : Int) + 1) = ((s + 1 : Nat) : Int) := by omega
    have sp : pairs (Z.rng (s : Nat) (x :: xs).length) (vI (x :: xs)) = .tup [.int (s : Nat), .int x] :: pairs (Z.rng ((s + 1 : Nat) : Int) xs.length) (vI xs) := by
      rw [← ei]; rfl
    rw [sp]
    by_cases c : p x = true
    · obtain ⟨r, e, q⟩ := lcP hat xs (acc ++ [(s : Int)]) (s + 1) (i + 1) (fun j z m => st j z (List.mem_cons_of_mem _ m)) (by rw [List.length_append, List.length_singleton]; omega)
      refine ⟨(s : Int) :: r, ?_, ⟨fun h => (by cases h), fun h => by have := h x List.mem_cons_self; rw [c] at this; cases this⟩⟩
      unfold lcL
      rw [if_pos (hat i), s0, if_pos c]
      have ft : fits (vI acc).length = true := fits_of (by rw [vI_len]; omega)
      simp only [ft, if_pos]
      rw [vI_app, List.append_assoc] at e
      exact e
    · obtain ⟨r, e, q⟩ := lcP hat xs acc (s + 1) (i + 1) (fun j z m => st j z (List.mem_cons_of_mem _ m)) (by omega)
      refine ⟨r, ?_, ⟨fun h y m => ?_, fun h => q.mpr fun y m => h y (List.mem_cons_of_mem _ m)⟩⟩
      · unfold lcL
        rw [if_pos (hat i), s0, if_neg c]
        exact e
      · rcases List.mem_cons.mp m with rfl | m
        · cases e : p y with
          | true => exact (c e).elim
          | false => rfl
        · exact q.mp h y m
theorem c64 (w d a : Nat) {p o lot : List Int} (lo : o.length < 1000) {h : Hip} (ha : h[a]? = some (.lst (vI lot))) : ∃ r : List Int, callF (P w) (d + 1) 64 [hf p o, .ref a] h = .ok (.tup (vI r)) h ∧ (r = [] ↔ ∀ x ∈ o, x ∉ lot) := by
  obtain ⟨r, e, q⟩ := lcP (k := ⟨pairs (Z.rng 0 (vI o).length) (vI o), none⟩) (f := compStep (.tp [2, 3]) (wipes [some (hf p o), some (.ref 0), none, none] [2, 3]) (evC (P w) (callF (P w) d) b64_0) (evE (P w) (callF (P w) d) b64_1)) (p := fun x => decide (x ∈ lot)) (h := [.lst (vI lot)]) (fun _ => rfl) o [] 0 0 (fun j x m => by
      have am := isin_I (h := [.lst (vI lot)]) (a := 0) (l := lot) rfl x
      by_cases c : x ∈ lot
      · rw [decide_eq_true c] at am ⊢
        exact comp_T (ρ' := [some (hf p o), some (.ref 0), some (.int j), some (.int x)]) rfl (e_cmp (e_var rfl) (e_var rfl) am) (e_var rfl)
      · rw [decide_eq_false c] at am ⊢
        exact comp_F (ρ' := [some (hf p o), some (.ref 0), some (.int j), some (.int x)]) rfl (e_cmp (e_var rfl) (e_var rfl) am)) (by rw [List.length_nil]; omega)
  have ev : pairs (Z.rng ((0 : Nat) : Int) o.length) (vI o) = pairs (Z.rng 0 (vI o).length) (vI o) := by rw [vI_len]; rfl
  rw [ev, List.nil_append] at e
  refine ⟨r, ?_, Iff.trans q ⟨fun h x m c => (by have := h x m; rw [decide_eq_true c] at this; cases this), fun h x m => decide_eq_false (h x m)⟩⟩
  refine call_snd (fd := d64) (ρ := [some (hf p o), some (.ref 0), none, none]) (g := [.lst (vI r)]) rfl rfl (hf_refs _ _) ha (vI_refs _) ?_ (by simp [refsV])
  exact x_ret (e_1 (ec_lc (k := ⟨pairs (Z.rng 0 (vI o).length) (vI o), none⟩) rfl e) (tup_ref rfl))
end K97

set_option maxRecDepth 100000
namespace K97
open Z Fig
/-! hung -/
def Nrng (n : Nat) : List Int := (List.range n).map fun i : Nat => (i : Int)
theorem lc_fil {k : Wk} {f : Val → Hip → Res (Option Val)} {p : Int → Bool} {h : Hip} (hat : ∀ i, k.at i h = true) (X : List Int) (st : ∀ x ∈ X, f (.int x) h = .ok (if p x = true then some (.int x) else none) h) (sz : X.length < 16777216) : lcL k f 0 (vI X) [] h = .ok (vI (X.filter p)) h := by
  have := lcL_map (k := k) (f := f) (h := h) (φ := fun v => match v with | .int x => if p x = true then some (.int x) else none | _ => none) hat (vI X) [] 0 (fun v m => by
    obtain ⟨x, mx, rfl⟩ := List.mem_map.mp m
    exact st x mx) (by rw [vI_len]; simpa using sz)
  rw [this, fm_filter (p := p) (fun x => rfl)]; rfl
theorem mem_Nrng {n : Nat} {x : Int} : x ∈ Nrng n ↔ 0 ≤ x ∧ x < (n : Int) := by
  unfold Nrng
  rw [List.mem_map]
  constructor
  · rintro ⟨i, m, rfl⟩
    have := List.mem_range.mp m
    omega
  · rintro ⟨h0, h1⟩
    exact ⟨x.toNat, List.mem_range.mpr (by omega), by omega⟩
section
variable {n : Nat} {p q op oq : List Int}
theorem link_loop (d : Nat) (v0 v1 v2 : Option Val) (rest : List (Option Val)) (hn : n ≤ 5) (hp : ∀ i, i < n → 0 ≤ p.getD i 0 ∧ p.getD i 0 < (n : Int)) (hq : ∀ i, i < n → 0 ≤ q.getD i 0 ∧ q.getD i 0 < (n : Int)) (it : Wk) (hat : ∀ j h, it.at j h = true) :
    ∀ (xs ys : List Int) (k i : Nat) (p4 p5 : Option Val), xs.length = ys.length → k + xs.length ≤ n → (∀ j, j < xs.length → xs.getD j 0 = p.getD (k + j) 0 ∧ ys.getD j 0 = q.getD (k + j) 0) →
    ∃ q4 q5, forL it (loopStep (.tp [4, 5]) (exSs (P 100) (callF (P 100) (d + 2)) b65_0)) i (pairs (vI xs) (vI ys)) (some (.int n) :: v1 :: v2 :: some (.ref 0) :: p4 :: p5 :: rest) [.lst (vI (hks n p q k))] =
      .ok (.nx, some (.int n) :: v1 :: v2 :: some (.ref 0) :: q4 :: q5 :: rest) [.lst (vI (hks n p q (k + xs.length)))]
  | [], ys, k, i, p4, p5, _, _, _ => ⟨p4, p5, by
    have : pairs (vI []) (vI ys) = [] := by cases ys <;> rfl
    rw [this]; unfold forL; rw [if_pos (hat _ _)]; rfl⟩
  | x :: xs, [], _, _, _, _, e, _, _ => by cases e
  | x :: xs, y :: ys, k, i, p4, p5, el, hk, hxy => by
    rw [List.length_cons] at hk
    have e0 := hxy 0 (by rw [List.length_cons]; omega)
    have ex : x = p.getD k 0 := e0.1
    have ey : y = q.getD k 0 := e0.2
    have H := hks_hk hp hq k (by omega)
    have len := hks_len n p q k
    have bp := hp k (by omega)
    have bq := hq k (by omega)
    obtain ⟨q4, q5, ih⟩ := link_loop d v0 v1 v2 rest hn hp hq it hat xs ys (k + 1) (i + 1) (some (.int x)) (some (.int y)) (by rw [List.length_cons, List.length_cons] at el; omega) (by omega) (fun j hj => by
      have := hxy (j + 1) (by rw [List.length_cons]; omega)
      rw [show k + 1 + j = k + (j + 1) by omega]
      exact this)
    refine ⟨q4, q5, ?_⟩
    have e8 := c8 d 0 H.lk (by omega) (x := x) (y := (n : Int) + y) (by rw [ex]; exact bp.1) (by rw [ex, len]; omega) (by rw [ey]; omega) (by rw [ey, len]; omega) (h := [.lst (vI (hks n p q k))]) rfl
    have sx : hks n p q (k + 1) = (hks n p q k).set (max (fo (hks n p q k) x) (fo (hks n p q k) ((n : Int) + y))).toNat (min (fo (hks n p q k) x) (fo (hks n p q k) ((n : Int) + y))) := by rw [ex, ey]; rfl
    have e8 : callF (P 100) (d + 2) 8 [.ref 0, .int x, .int ((n : Int) + y)] [.lst (vI (hks n p q k))] = .ok .non [.lst (vI (hks n p q (k + 1)))] := by rw [sx]; exact e8
    have b : loopStep (.tp [4, 5]) (exSs (P 100) (callF (P 100) (d + 2)) b65_0) (.tup [.int x, .int y]) (some (.int n) :: v1 :: v2 :: some (.ref 0) :: p4 :: p5 :: rest) [.lst (vI (hks n p q k))] = .ok (.nx, some (.int n) :: v1 :: v2 :: some (.ref 0) :: some (.int x) :: some (.int y) :: rest) [.lst (vI (hks n p q (k + 1)))] := by
      show exSs (P 100) (callF (P 100) (d + 2)) b65_0 (some (.int n) :: v1 :: v2 :: some (.ref 0) :: some (.int x) :: some (.int y) :: rest) [.lst (vI (hks n p q k))] = _
      exact x_last (s_expr (ec_call (es_cons (e_var rfl) (es_cons (e_var rfl) (es_cons (e_2 (e_var rfl) (e_var rfl) add_int) es_nil))) e8))
    show forL it _ i (.tup [.int x, .int y] :: pairs (vI xs) (vI ys)) _ _ = _
    unfold forL
    rw [if_pos (hat _ _), b, List.length_cons, show k + (xs.length + 1) = k + 1 + xs.length by omega]
    exact ih
/-- the heap while hung goes through the pieces -/
def HH (L : List Int) (C : List Val) (S : List Int) (g : Hip) : Hip := .lst (vI L) :: .lst C :: .lst (vI S) :: g
/-- pairs of tuples of ints -/
def Pr (v : Val) : Prop := ∃ a b : List Int, v = .tup [.tup (vI a), .tup (vI b)]
theorem pr_refs : ∀ {C : List Val}, (∀ c ∈ C, Pr c) → refsVs C = []
  | [], _ => rfl
  | c :: C, h => by
    obtain ⟨a, b, e⟩ := h c List.mem_cons_self
    rw [e]
    have := pr_refs fun c m => h c (List.mem_cons_of_mem _ m)
    simp [refsVs, refsV, this]
theorem eq_tup0 (r : List Int) (h : Hip) : cmpOp .eq (.tup (vI r)) (.tup []) h = some (decide (r = [])) := eq_tup h r []
theorem add_I2 {h : Hip} (a b : Int) : augOp .add (.int a) (.int b) h = .ok (.int (a + b)) h := rfl
theorem body65 (d : Nat) (hn : n ≤ 5) {L : List Int} (lk : LK L) (hL : L.length = 2 * n) (lo : op.length < 1000) (lq : oq.length < 1000) (ho : ∀ x ∈ op, 0 ≤ x ∧ x < (n : Int)) (hoq : ∀ x ∈ oq, 0 ≤ x ∧ x < (n : Int))
    (C : List Val) (S : List Int) (g : Hip) (R : Nat) (lC : C.length < 100) (lS : S.length < 100) (hC : ∀ c ∈ C, Pr c) {x : Int} (h0 : 0 ≤ x) (h1 : x < (n : Int)) (p5 v9 v10 v11 : Option Val) :
    ∃ (C' : List Val) (S' : List Int) (g' : Hip) (R' : Nat) (u9 u10 u11 : Option Val), (∀ c ∈ C', Pr c) ∧
      ((fo L x ∈ S ∧ C' = C ∧ S' = S ∧ R' = R) ∨ (fo L x ∉ S ∧ S' = S ++ [fo L x] ∧ ((fo L x ∉ op.map (fo L) ++ oq.map (fun y => fo L ((n : Int) + y)) ∧ C' = C ∧ R' = R + 1) ∨ (fo L x ∈ op.map (fo L) ++ oq.map (fun y => fo L ((n : Int) + y)) ∧ C'.length = C.length + 1 ∧ R' = R)))) ∧
      exSs (P 100) (callF (P 100) (d + 1)) (dropS 0 b65_5) [some (.int n), some (hf p op), some (hf q oq), some (.ref 0), some (.int x), p5, some (.ref 1), some (.int R), some (.ref 2), v9, v10, v11, none] (HH L C S g) =
        .ok (.nx, [some (.int n), some (hf p op), some (hf q oq), some (.ref 0), some (.int x), p5, some (.ref 1), some (.int R'), some (.ref 2), u9, u10, u11, none]) (HH L C' S' g') := by
  have e7 := c7 d 0 lk (by omega) h0 (show x < (L.length : Int) by omega) (h := HH L C S g) rfl
  have ni := notin_I (h := HH L C S g) (a := 2) (l := S) rfl (fo L x)
  by_cases m : fo L x ∈ S
  · rw [decide_eq_true m] at ni
    refine ⟨C, S, g, R, some (.int (fo L x)), v10, v11, hC, .inl ⟨m, rfl, rfl, rfl⟩, ?_⟩
    refine x_at rfl (s_asg (ρ' := [some (.int n), some (hf p op), some (hf q oq), some (.ref 0), some (.int x), p5, some (.ref 1), some (.int R), some (.ref 2), some (.int (fo L x)), v10, v11, none]) (ec_call (es_cons (e_var rfl) (es_cons (e_var rfl) es_nil)) e7) rfl) rfl ?_
    exact x_last (s_ifF (e_cmp (e_var rfl) (e_var rfl) ni) x_nil)
  · rw [decide_eq_false m] at ni
    have ap := append_I (h := HH L C S g) (a := 2) (xs := S) rfl (by omega) (fo L x)
    have ap : bmOp .append (.ref 2) [.int (fo L x)] (HH L C S g) = .ok .non (HH L C (S ++ [fo L x]) g) := ap
    let ρ9 : Env := [some (.int n), some (hf p op), some (hf q oq), some (.ref 0), some (.int x), p5, some (.ref 1), some (.int R), some (.ref 2), some (.int (fo L x)), v10, v11, none]
    let S' := S ++ [fo L x]
    let l1 : List Int := (Nrng n).filter fun y => decide (fo L y = fo L x)
    let l2 : List Int := (Nrng n).filter fun y => decide (fo L ((n : Int) + y) = fo L x)
    let g1 : Hip := g ++ [.lst (vI l1)]
    let g2 : Hip := g1 ++ [.lst (vI l2)]
    have rg : rangeOf [.int (n : Int)] = some (vI (Nrng n)) := range_nat (by omega)
    have lN : (Nrng n).length < 16777216 := by unfold Nrng; rw [List.length_map, List.length_range]; omega
    have L1 := lc_fil (k := ⟨vI (Nrng n), none⟩) (f := compStep (.nm 12) (wipes ρ9 [12]) (evC (P 100) (callF (P 100) (d + 1)) b65_1) (evE (P 100) (callF (P 100) (d + 1)) b65_2)) (p := fun y => decide (fo L y = fo L x)) (h := HH L C S' g) (fun _ => rfl) (Nrng n) (fun y my => by
      have by' := mem_Nrng.mp my
      have e := c7 d 0 lk (by omega) by'.1 (show y < (L.length : Int) by omega) (h := HH L C S' g) rfl
      have eq := eq_intC (fo L y) (fo L x) (HH L C S' g)
      by_cases c : fo L y = fo L x
      · rw [decide_eq_true c] at eq ⊢
        exact comp_T (ρ' := [some (.int n), some (hf p op), some (hf q oq), some (.ref 0), some (.int x), p5, some (.ref 1), some (.int R), some (.ref 2), some (.int (fo L x)), v10, v11, some (.int y)]) rfl (e_cmp (ec_call (es_cons (e_var rfl) (es_cons (e_var rfl) es_nil)) e) (e_var rfl) eq) (e_var rfl)
      · rw [decide_eq_false c] at eq ⊢
        exact comp_F (ρ' := [some (.int n), some (hf p op), some (hf q oq), some (.ref 0), some (.int x), p5, some (.ref 1), some (.int R), some (.ref 2), some (.int (fo L x)), v10, v11, some (.int y)]) rfl (e_cmp (ec_call (es_cons (e_var rfl) (es_cons (e_var rfl) es_nil)) e) (e_var rfl) eq)) lN
    have n1 : (HH L C S' g1)[g.length + 3]? = some (.lst (vI l1)) := get_new (h := g) (o := .lst (vI l1))
    obtain ⟨r1, e64, q1⟩ := c64 100 d (g.length + 3) (p := p) (o := op) (lot := l1) lo (h := HH L C S' g1) n1
    let ρ10 : Env := [some (.int n), some (hf p op), some (hf q oq), some (.ref 0), some (.int x), p5, some (.ref 1), some (.int R), some (.ref 2), some (.int (fo L x)), some (.tup (vI r1)), v11, none]
    have L2 := lc_fil (k := ⟨vI (Nrng n), none⟩) (f := compStep (.nm 12) (wipes ρ10 [12]) (evC (P 100) (callF (P 100) (d + 1)) b65_3) (evE (P 100) (callF (P 100) (d + 1)) b65_4)) (p := fun y => decide (fo L ((n : Int) + y) = fo L x)) (h := HH L C S' g1) (fun _ => rfl) (Nrng n) (fun y my => by
      have by' := mem_Nrng.mp my
      have e := c7 d 0 lk (by omega) (x := (n : Int) + y) (by omega) (show (n : Int) + y < (L.length : Int) by omega) (h := HH L C S' g1) rfl
      have eq := eq_intC (fo L ((n : Int) + y)) (fo L x) (HH L C S' g1)
      by_cases c : fo L ((n : Int) + y) = fo L x
      · rw [decide_eq_true c] at eq ⊢
        exact comp_T (ρ' := [some (.int n), some (hf p op), some (hf q oq), some (.ref 0), some (.int x), p5, some (.ref 1), some (.int R), some (.ref 2), some (.int (fo L x)), some (.tup (vI r1)), v11, some (.int y)]) rfl (e_cmp (ec_call (es_cons (e_var rfl) (es_cons (e_2 (e_var rfl) (e_var rfl) add_int) es_nil)) e) (e_var rfl) eq) (e_var rfl)
      · rw [decide_eq_false c] at eq ⊢
        exact comp_F (ρ' := [some (.int n), some (hf p op), some (hf q oq), some (.ref 0), some (.int x), p5, some (.ref 1), some (.int R), some (.ref 2), some (.int (fo L x)), some (.tup (vI r1)), v11, some (.int y)]) rfl (e_cmp (ec_call (es_cons (e_var rfl) (es_cons (e_2 (e_var rfl) (e_var rfl) add_int) es_nil)) e) (e_var rfl) eq)) lN
    have n2 : (HH L C S' g2)[g1.length + 3]? = some (.lst (vI l2)) := get_new (h := g1) (o := .lst (vI l2))
    obtain ⟨r2, e64b, q2⟩ := c64 100 d (g1.length + 3) (p := q) (o := oq) (lot := l2) lq (h := HH L C S' g2) n2
    let ρ11 : Env := [some (.int n), some (hf p op), some (hf q oq), some (.ref 0), some (.int x), p5, some (.ref 1), some (.int R), some (.ref 2), some (.int (fo L x)), some (.tup (vI r1)), some (.tup (vI r2)), none]
    have q1' : r1 = [] ↔ ∀ y ∈ op, fo L y ≠ fo L x := Iff.trans q1 ⟨fun h y my e => h y my (List.mem_filter.mpr ⟨mem_Nrng.mpr (ho y my), decide_eq_true e⟩), fun h y my c => h y my (of_decide_eq_true (List.mem_filter.mp c).2)⟩
    have q2' : r2 = [] ↔ ∀ y ∈ oq, fo L ((n : Int) + y) ≠ fo L x := Iff.trans q2 ⟨fun h y my e => h y my (List.mem_filter.mpr ⟨mem_Nrng.mpr (hoq y my), decide_eq_true e⟩), fun h y my c => h y my (of_decide_eq_true (List.mem_filter.mp c).2)⟩
    have bad : (r1 = [] ∧ r2 = []) ↔ fo L x ∉ op.map (fo L) ++ oq.map (fun y => fo L ((n : Int) + y)) := by
      rw [q1', q2', List.mem_append, List.mem_map, List.mem_map]
      constructor
      · rintro ⟨a, b⟩ (⟨y, my, e⟩ | ⟨y, my, e⟩)
        · exact a y my e
        · exact b y my e
      · exact fun no => ⟨fun y my e => no (.inl ⟨y, my, e⟩), fun y my e => no (.inr ⟨y, my, e⟩)⟩
    have eqa := eq_tup0 r1 (HH L C S' g2)
    have eqb := eq_tup0 r2 (HH L C S' g2)
    have main : ∀ (C' : List Val) (R' : Nat), exS (P 100) (callF (P 100) (d + 1)) (.cond (.and2 (.cmp .eq (.var 10) (.tup .nil)) (.cmp .eq (.var 11) (.tup .nil))) (.cons (.aug 7 .add (.con (.int 1))) .nil) (.cons (.expr (.bm .append (.var 6) (.cons (.tup (.cons (.var 10) (.cons (.var 11) .nil))) .nil))) .nil)) ρ11 (HH L C S' g2) =
        .ok (.nx, [some (.int n), some (hf p op), some (hf q oq), some (.ref 0), some (.int x), p5, some (.ref 1), some (.int R'), some (.ref 2), some (.int (fo L x)), some (.tup (vI r1)), some (.tup (vI r2)), none]) (HH L C' S' g2) →
        exSs (P 100) (callF (P 100) (d + 1)) (dropS 0 b65_5) [some (.int n), some (hf p op), some (hf q oq), some (.ref 0), some (.int x), p5, some (.ref 1), some (.int R), some (.ref 2), v9, v10, v11, none] (HH L C S g) =
        .ok (.nx, [some (.int n), some (hf p op), some (hf q oq), some (.ref 0), some (.int x), p5, some (.ref 1), some (.int R'), some (.ref 2), some (.int (fo L x)), some (.tup (vI r1)), some (.tup (vI r2)), none]) (HH L C' S' g2) := fun C' R' last => by
      refine x_at rfl (s_asg (ρ' := ρ9) (ec_call (es_cons (e_var rfl) (es_cons (e_var rfl) es_nil)) e7) rfl) rfl ?_
      refine x_last (s_ifT (e_cmp (e_var rfl) (e_var rfl) ni) ?_)
      refine (x_cons (s_expr (h1 := HH L C S' g) (e_bm (e_var rfl) rfl (e_var rfl) ap))).trans ?_
      refine (x_cons (s_asg (ρ' := ρ10) (h1 := HH L C S' g1) (ec_call (es_cons (e_var rfl) (es_cons (ec_lc (i_range (es_cons (e_var rfl) es_nil) rg) L1) es_nil)) e64) rfl)).trans ?_
      refine (x_cons (s_asg (ρ' := ρ11) (h1 := HH L C S' g2) (ec_call (es_cons (e_var rfl) (es_cons (ec_lc (i_range (es_cons (e_var rfl) es_nil) rg) L2) es_nil)) e64b) rfl)).trans ?_
      exact x_last last
    by_cases c1 : r1 = []
    · rw [decide_eq_true c1] at eqa
      by_cases c2 : r2 = []
      · rw [decide_eq_true c2] at eqb
        refine ⟨C, S', g2, R + 1, _, _, _, hC, .inr ⟨m, rfl, .inl ⟨bad.mp ⟨c1, c2⟩, rfl, rfl⟩⟩, main C (R + 1) ?_⟩
        exact s_ifT (e_and1 (e_cmp (e_var rfl) (e_tup es_nil rfl) eqa) (e_cmp (e_var rfl) (e_tup es_nil rfl) eqb)) (x_last (s_aug (x := .int R) rfl e_con (add_I2 _ _)))
      · rw [decide_eq_false c2] at eqb
        have pc := append_at (h := HH L C S' g2) (a := 1) (xs := C) rfl (by omega) (.tup [.tup (vI r1), .tup (vI r2)])
        refine ⟨C ++ [.tup [.tup (vI r1), .tup (vI r2)]], S', g2, R, _, _, _, ?_, .inr ⟨m, rfl, .inr ⟨Decidable.byContradiction fun no => c2 (bad.mpr no).2, by rw [List.length_append]; rfl, rfl⟩⟩, main _ R ?_⟩
        · exact fun c mc => (List.mem_append.mp mc).elim (hC c) fun mc => ⟨r1, r2, List.mem_singleton.mp mc⟩
        · exact s_ifF (e_and1 (e_cmp (e_var rfl) (e_tup es_nil rfl) eqa) (e_cmp (e_var rfl) (e_tup es_nil rfl) eqb)) (x_last (s_expr (e_bm (e_var rfl) rfl (e_tup (es_cons (e_var rfl) (es_cons (e_var rfl) es_nil)) rfl) pc)))
    · rw [decide_eq_false c1] at eqa
      have pc := append_at (h := HH L C S' g2) (a := 1) (xs := C) rfl (by omega) (.tup [.tup (vI r1), .tup (vI r2)])
      refine ⟨C ++ [.tup [.tup (vI r1), .tup (vI r2)]], S', g2, R, _, _, _, ?_, .inr ⟨m, rfl, .inr ⟨Decidable.byContradiction fun no => c1 (bad.mpr no).1, by rw [List.length_append]; rfl, rfl⟩⟩, main _ R ?_⟩
      · exact fun c mc => (List.mem_append.mp mc).elim (hC c) fun mc => ⟨r1, r2, List.mem_singleton.mp mc⟩
      · exact s_ifF (e_andF (e_cmp (e_var rfl) (e_tup es_nil rfl) eqa)) (x_last (s_expr (e_bm (e_var rfl) rfl (e_tup (es_cons (e_var rfl) (es_cons (e_var rfl) es_nil)) rfl) pc)))
end
end K97

set_option maxRecDepth 100000
namespace K97
open Z Fig
section
variable {n : Nat} {p q op oq : List Int}
theorem pieces_loop (d : Nat) (hn : n ≤ 5) {L : List Int} (lk : LK L) (hL : L.length = 2 * n) (lo : op.length < 1000) (lq : oq.length < 1000) (ho : ∀ x ∈ op, 0 ≤ x ∧ x < (n : Int)) (hoq : ∀ x ∈ oq, 0 ≤ x ∧ x < (n : Int)) (it : Wk) (hat : ∀ j h, it.at j h = true) (p5 : Option Val) :
    ∀ (xs : List Int) (i : Nat) (C : List Val) (S : List Int) (g : Hip) (R : Nat) (p4 v9 v10 v11 : Option Val), C.length + xs.length < 100 → S.length + xs.length < 100 → (∀ c ∈ C, Pr c) → (∀ x ∈ xs, 0 ≤ x ∧ x < (n : Int)) → S.Nodup →
      R = (S.filter fun y => !decide (y ∈ op.map (fo L) ++ oq.map (fun y => fo L ((n : Int) + y)))).length → C.length = (S.filter fun y => decide (y ∈ op.map (fo L) ++ oq.map (fun y => fo L ((n : Int) + y)))).length →
      ∃ (C' : List Val) (S' : List Int) (g' : Hip) (R' : Nat) (u4 u9 u10 u11 : Option Val), (∀ c ∈ C', Pr c) ∧ S'.Nodup ∧ (∀ y, y ∈ S' ↔ y ∈ S ∨ y ∈ xs.map (fo L)) ∧
        R' = (S'.filter fun y => !decide (y ∈ op.map (fo L) ++ oq.map (fun y => fo L ((n : Int) + y)))).length ∧ C'.length = (S'.filter fun y => decide (y ∈ op.map (fo L) ++ oq.map (fun y => fo L ((n : Int) + y)))).length ∧
        forL it (loopStep (.nm 4) (exSs (P 100) (callF (P 100) (d + 1)) b65_5)) i (vI xs) [some (.int n), some (hf p op), some (hf q oq), some (.ref 0), p4, p5, some (.ref 1), some (.int R), some (.ref 2), v9, v10, v11, none] (HH L C S g) =
          .ok (.nx, [some (.int n), some (hf p op), some (hf q oq), some (.ref 0), u4, p5, some (.ref 1), some (.int R'), some (.ref 2), u9, u10, u11, none]) (HH L C' S' g')
  | [], i, C, S, g, R, p4, v9, v10, v11, _, _, hC, _, nd, eR, eC => ⟨C, S, g, R, p4, v9, v10, v11, hC, nd, fun y => by simp, eR, eC, by unfold forL; rw [vI_nil]; simp only [hat, if_pos]⟩
  | x :: xs, i, C, S, g, R, p4, v9, v10, v11, lC, lS, hC, hx, nd, eR, eC => by
    rw [List.length_cons] at lC lS
    have bx := hx x List.mem_cons_self
    obtain ⟨C1, S1, g1, R1, u9, u10, u11, hC1, what, e⟩ := body65 (p := p) (q := q) d hn lk hL lo lq ho hoq C S g R (by omega) (by omega) hC bx.1 bx.2 p5 v9 v10 v11
    have hx' : ∀ z ∈ xs, 0 ≤ z ∧ z < (n : Int) := fun z m => hx z (List.mem_cons_of_mem _ m)
    have inv : C1.length + xs.length < 100 ∧ S1.length + xs.length < 100 ∧ S1.Nodup ∧ R1 = (S1.filter fun y => !decide (y ∈ op.map (fo L) ++ oq.map (fun y => fo L ((n : Int) + y)))).length ∧ C1.length = (S1.filter fun y => decide (y ∈ op.map (fo L) ++ oq.map (fun y => fo L ((n : Int) + y)))).length ∧ ∀ y, y ∈ S1 ↔ y ∈ S ∨ y = fo L x := by
      rcases what with ⟨m, rfl, rfl, rfl⟩ | ⟨m, rfl, h⟩
      · exact ⟨by omega, by omega, nd, eR, eC, fun y => ⟨.inl, fun h => h.elim id fun e => e ▸ m⟩⟩
      · have ndS : (S ++ [fo L x]).Nodup := List.nodup_append.mpr ⟨nd, by simp, fun a ha b hb e => m (by rw [List.mem_singleton] at hb; rw [← hb, ← e]; exact ha)⟩
        have mS : ∀ y, y ∈ S ++ [fo L x] ↔ y ∈ S ∨ y = fo L x := fun y => by rw [List.mem_append, List.mem_singleton]
        rcases h with ⟨no, rfl, rfl⟩ | ⟨yes, lc, rfl⟩
        · refine ⟨by omega, by rw [List.length_append, List.length_singleton]; omega, ndS, ?_, ?_, mS⟩
          · rw [List.filter_append, List.length_append, ← eR, List.filter_cons_of_pos (by rw [decide_eq_false no]; rfl)]; rfl
          · rw [List.filter_append, List.length_append, ← eC, List.filter_cons_of_neg (by rw [decide_eq_false no]; decide)]; rfl
        · refine ⟨by omega, by rw [List.length_append, List.length_singleton]; omega, ndS, ?_, ?_, mS⟩
          · rw [List.filter_append, List.length_append, ← eR, List.filter_cons_of_neg (by rw [decide_eq_true yes]; decide)]; rfl
          · rw [List.filter_append, List.length_append, ← eC, List.filter_cons_of_pos (by rw [decide_eq_true yes]), lc]; rfl
    obtain ⟨lC1, lS1, nd1, eR1, eC1, m1⟩ := inv
    obtain ⟨C', S', g', R', u4, w9, w10, w11, hC', nd', m', eR', eC', ih⟩ := pieces_loop d hn lk hL lo lq ho hoq it hat p5 xs (i + 1) C1 S1 g1 R1 (some (.int x)) u9 u10 u11 lC1 lS1 hC1 hx' nd1 eR1 eC1
    refine ⟨C', S', g', R', u4, w9, w10, w11, hC', nd', fun y => ?_, eR', eC', ?_⟩
    · rw [m', m1, List.map_cons, List.mem_cons]
      exact ⟨fun h => h.elim (fun h => h.elim .inl fun e => .inr (.inl e)) fun m => .inr (.inr m), fun h => h.elim (fun m => .inl (.inl m)) fun h => h.elim (fun e => .inl (.inr e)) .inr⟩
    · rw [vI_cons]
      unfold forL
      rw [if_pos (hat _ _)]
      have b : loopStep (.nm 4) (exSs (P 100) (callF (P 100) (d + 1)) b65_5) (.int x) [some (.int n), some (hf p op), some (hf q oq), some (.ref 0), p4, p5, some (.ref 1), some (.int R), some (.ref 2), v9, v10, v11, none] (HH L C S g) = .ok (.nx, [some (.int n), some (hf p op), some (hf q oq), some (.ref 0), some (.int x), p5, some (.ref 1), some (.int R1), some (.ref 2), u9, u10, u11, none]) (HH L C1 S1 g1) := e
      rw [b]
      exact ih
theorem bnd {l : List Int} (h : ∀ i, i < n → 0 ≤ l.getD i 0 ∧ l.getD i 0 < (n : Int)) (hl : l.length = n) {x : Int} (m : x ∈ l) : 0 ≤ x ∧ x < (n : Int) := by
  obtain ⟨i, e⟩ := List.mem_iff_getElem?.mp m
  have hi : i < l.length := (List.getElem?_eq_some_iff.mp e).1
  rw [getD_some hi] at e
  have := h i (by omega)
  rw [Option.some.inj e] at this
  exact this
theorem c65 (d : Nat) (hn1 : 1 ≤ n) (hn : n ≤ 5) (f1 : Hf n p op) (f2 : Hf n q oq) (h : Hip) : ∃ C : List Val, (∀ c ∈ C, Pr c) ∧ C.length = hchains n p q op oq ∧ callF (P 100) (d + 6) 65 [.int n, hf p op, hf q oq] h = .ok (.tup [.tup C, .int (hrings n p q op oq : Nat)]) h := by
  have bp : ∀ i, i < n → 0 ≤ p.getD i 0 ∧ p.getD i 0 < (n : Int) := fun i hi => by
    have := nam_lt (l := p) (x := p.getD i 0) (by rw [f1.nm]; exact mem_getD (by rw [f1.len]; exact hi))
    rw [f1.len] at this; exact this
  have bq : ∀ i, i < n → 0 ≤ q.getD i 0 ∧ q.getD i 0 < (n : Int) := fun i hi => by
    have := nam_lt (l := q) (x := q.getD i 0) (by rw [f2.nm]; exact mem_getD (by rw [f2.len]; exact hi))
    rw [f2.len] at this; exact this
  have H := hks_hk bp bq n (Nat.le_refl _)
  have len := hks_len n p q n
  obtain ⟨q4, q5, eL⟩ := link_loop (n := n) (p := p) (q := q) (d + 3) (some (.int n)) (some (hf p op)) (some (hf q oq)) [none, none, none, none, none, none, none] hn bp bq ⟨pairs (vI p) (vI q), none⟩ (fun _ _ => rfl) p q 0 0 none none (by rw [f1.len, f2.len]) (by rw [f1.len]; omega) (fun j _ => by rw [Nat.zero_add]; exact ⟨rfl, rfl⟩)
  rw [f1.len, Nat.zero_add] at eL
  obtain ⟨C, S, g, R, u4, u9, u10, u11, hC, nd, mS, eR, eC, eP⟩ := pieces_loop (p := p) (q := q) (op := op) (oq := oq) (d + 4) hn H.lk len f1.lo f2.lo (fun x m => bnd bp f1.len (f1.bo x m).2) (fun x m => bnd bq f2.len (f2.bo x m).2) ⟨vI p, none⟩ (fun _ _ => rfl) q5 p 0 [] [] [] 0 q4 none none none (by rw [f1.len, List.length_nil]; omega) (by rw [f1.len, List.length_nil]; omega) (fun c m => by cases m) (fun x m => bnd bp f1.len m) List.nodup_nil rfl rfl
  have key : ∀ P : Int → Bool, (S.filter P).length = dn ((hv n p q).filter P) := fun P => by
    rw [← dn_nodup (nd.filter P)]
    refine dn_same fun y => ?_
    rw [List.mem_filter, List.mem_filter, mS]
    show ((y ∈ [] ∨ y ∈ hv n p q) ∧ _) ↔ _
    simp
  have eR : R = hrings n p q op oq := eR.trans (key _)
  have eC : C.length = hchains n p q op oq := eC.trans (key _)
  refine ⟨C, hC, eC, ?_⟩
  rw [← eR]
  have e2n : (2 : Int) * (n : Int) = ((2 * n : Nat) : Int) := by omega
  have rg : rangeOf [.int (2 * (n : Int))] = some (vI (hks n p q 0)) := by rw [e2n]; exact range_nat (by omega)
  refine call_pure (fd := d65) rfl rfl (by simp [refsVs, refsV, hf]) (ρ := [some (.int n), some (hf p op), some (hf q oq), some (.ref 0), u4, q5, some (.ref 1), some (.int R), some (.ref 2), u9, u10, u11, none]) (g := HH (hks n p q n) C S g) ?_ (by simp [refsV, refsVs, pr_refs hC]) h
  show exSs (P 100) (callF (P 100) (d + 5)) (dropS 0 b65) [some (.int n), some (hf p op), some (hf q oq), none, none, none, none, none, none, none, none, none, none] [] = _
  refine x_at rfl (s_expr (ec_call (es_cons (e_var rfl) (es_cons (e_var rfl) es_nil)) (c55 100 d hn1 hn f1 _))) rfl ?_
  refine x_at rfl (s_expr (ec_call (es_cons (e_var rfl) (es_cons (e_var rfl) es_nil)) (c54 100 (d + 1) hn1 hn f2 _))) rfl ?_
  refine x_at rfl (s_asg (ρ' := [some (.int n), some (hf p op), some (hf q oq), some (.ref 0), none, none, none, none, none, none, none, none, none]) (h1 := [.lst (vI (hks n p q 0))]) (lr_gen (e_2 e_con (e_var rfl) (mul_int (mulOk_l (by decide)))) rg (fits_of (by rw [vI_len, hks_len]; omega))) rfl) rfl ?_
  refine x_at rfl (s_loop (k := ⟨pairs (vI p) (vI q), none⟩) rfl eL) rfl ?_
  refine x_at rfl (s_asg (ρ' := [some (.int n), some (hf p op), some (hf q oq), some (.ref 0), q4, q5, some (.ref 1), some (.int (0 : Nat)), some (.ref 2), none, none, none, none]) (h1 := HH (hks n p q n) [] [] []) (v := .tup [.ref 1, .int 0, .ref 2]) rfl rfl) rfl ?_
  refine x_at rfl (s_loop (k := ⟨vI p, none⟩) (i_seq (e_ix (e_var rfl) e_con rfl) rfl) eP) rfl ?_
  exact x_ret (e_tup (es_cons (e_1 (e_var rfl) (tup_ref rfl)) (es_cons (e_var rfl) es_nil)) rfl)
end
end K97

set_option maxRecDepth 100000
namespace K97
open Z Fig
/-! lots of the law -/
theorem lmk_len (p far : List Int) (a o : Nat) : (lmk p far a o).length = p.length := by
  unfold lmk; split
  · exact List.length_map ..
  · rfl
theorem lrow_len (far : List Int) (a : Nat) (p : List Int) : ∀ k, (lrow far a p k).length = p.length
  | 0 => rfl
  | k + 1 => by show (lmk _ _ _ _).length = _; rw [lmk_len, lrow_len far a p k]
theorem lall_len (near far : List Int) : ∀ k, (lall near far k).length = near.length
  | 0 => rfl
  | k + 1 => by show (lrow _ _ _ _).length = _; rw [lrow_len, lall_len near far k]
section
variable {n : Nat} {near far m : List Int}
theorem st68 (w : Nat) (cf : CF) (v0 v1 v6 v7 v8 : Option Val) {a at_ one : Nat} (hn : n ≤ 5) (lm : m.length = n) (lf : far.length = n) (ha : at_ < n) (ho : one < n) {h : Hip} (e : h[a]? = some (.lst (vI m))) :
    ∃ (a' : Nat) (h' : Hip) (u6 u7 : Option Val), h'[a']? = some (.lst (vI (lmk m far at_ one))) ∧
      exSs (P w) cf b68_2 [v0, v1, some (.tup (vI far)), some (.ref a), some (.int at_), some (.int one), v6, v7, v8] h = .ok (.nx, [v0, v1, some (.tup (vI far)), some (.ref a'), some (.int at_), some (.int one), u6, u7, v8]) h' := by
  have f1 := ix_tup (l := far) (i := one) (by omega) h
  have f2 := ix_tup (l := far) (i := at_) (by omega) h
  have m1 := ix_lstA (x := (one : Int)) e (by omega) (by omega)
  have m2 := ix_lstA (x := (at_ : Int)) e (by omega) (by omega)
  rw [Int.toNat_natCast] at m1 m2
  have eq := eq_intC (far.getD one 0) (far.getD at_ 0) h
  have ne := ne_intC (m.getD one 0) (m.getD at_ 0) h
  have ek : lmk m far at_ one = if far.getD one 0 = far.getD at_ 0 ∧ m.getD one 0 ≠ m.getD at_ 0 then m.map fun x => if x = m.getD at_ 0 then m.getD one 0 else x else m := rfl
  by_cases c1 : far.getD one 0 = far.getD at_ 0
  · rw [decide_eq_true c1] at eq
    by_cases c2 : m.getD one 0 = m.getD at_ 0
    · rw [decide_eq_true c2] at ne
      rw [if_neg (fun z => z.2 c2)] at ek
      refine ⟨a, h, v6, v7, by rw [ek]; exact e, ?_⟩
      exact x_last (s_ifF (e_and1 (e_cmp (e_ix (e_var rfl) (e_var rfl) f1) (e_ix (e_var rfl) (e_var rfl) f2) eq) (e_cmp (e_ix (e_var rfl) (e_var rfl) m1) (e_ix (e_var rfl) (e_var rfl) m2) ne)) x_nil)
    · rw [decide_eq_false c2] at ne
      rw [if_pos ⟨c1, c2⟩] at ek
      have lcm := lc_ints (k := ⟨vI m, some a⟩) (f := compStep (.nm 8) (wipes [v0, v1, some (.tup (vI far)), some (.ref a), some (.int at_), some (.int one), some (.int (m.getD at_ 0)), some (.int (m.getD one 0)), v8] [8]) (evC (P w) cf b68_0) (evE (P w) cf b68_1)) (g := fun x => if x = m.getD at_ 0 then m.getD one 0 else x) (h := h) (fun i => at_src e i) m 0 (fun x mx => by
        refine comp_no (ρ' := [v0, v1, some (.tup (vI far)), some (.ref a), some (.int at_), some (.int one), some (.int (m.getD at_ 0)), some (.int (m.getD one 0)), some (.int x)]) rfl (e_ite (e_cmp (e_var rfl) (e_var rfl) (eq_intC _ _ _)) ?_)
        by_cases q : x = m.getD at_ 0
        · rw [decide_eq_true q, if_pos rfl, if_pos q]; exact e_var rfl
        · rw [decide_eq_false q, if_neg Bool.false_ne_true, if_neg q]; exact e_var rfl) (by omega)
      rw [← ek] at lcm
      refine ⟨h.length, h ++ [.lst (vI (lmk m far at_ one))], some (.int (m.getD at_ 0)), some (.int (m.getD one 0)), get_new, ?_⟩
      refine x_last (s_ifT (e_and1 (e_cmp (e_ix (e_var rfl) (e_var rfl) f1) (e_ix (e_var rfl) (e_var rfl) f2) eq) (e_cmp (e_ix (e_var rfl) (e_var rfl) m1) (e_ix (e_var rfl) (e_var rfl) m2) ne)) ?_)
      refine (x_cons (s_asg (ρ' := [v0, v1, some (.tup (vI far)), some (.ref a), some (.int at_), some (.int one), some (.int (m.getD at_ 0)), some (.int (m.getD one 0)), v8]) (e_tup (es_cons (e_ix (e_var rfl) (e_var rfl) m2) (es_cons (e_ix (e_var rfl) (e_var rfl) m1) es_nil)) rfl) rfl)).trans ?_
      exact x_last (s_asg (ec_lc (i_seq (e_var rfl) (walkR e)) lcm) rfl)
  · rw [decide_eq_false c1] at eq
    rw [if_neg (fun z => c1 z.1)] at ek
    refine ⟨a, h, v6, v7, by rw [ek]; exact e, ?_⟩
    exact x_last (s_ifF (e_andF (e_cmp (e_ix (e_var rfl) (e_var rfl) f1) (e_ix (e_var rfl) (e_var rfl) f2) eq)) x_nil)
theorem row68 (w : Nat) (cf : CF) (v0 v1 v8 : Option Val) {at_ : Nat} (hn : n ≤ 5) (lm : m.length = n) (lf : far.length = n) (ha : at_ < n) (it : Wk) (hat : ∀ j h, it.at j h = true) : ∀ (c k i a : Nat) (h : Hip) (v5 v6 v7 : Option Val), k + c = at_ → h[a]? = some (.lst (vI (lrow far at_ m k))) →
    ∃ (a' : Nat) (h' : Hip) (u5 u6 u7 : Option Val), h'[a']? = some (.lst (vI (lrow far at_ m at_))) ∧
      forL it (loopStep (.nm 5) (exSs (P w) cf b68_2)) i (vI ((List.range' k c).map fun i : Nat => (i : Int))) [v0, v1, some (.tup (vI far)), some (.ref a), some (.int at_), v5, v6, v7, v8] h = .ok (.nx, [v0, v1, some (.tup (vI far)), some (.ref a'), some (.int at_), u5, u6, u7, v8]) h'
  | 0, k, i, a, h, v5, v6, v7, hk, e => by
    have : k = at_ := by omega
    subst this
    exact ⟨a, h, v5, v6, v7, e, by show forL it _ i [] _ _ = _; unfold forL; rw [if_pos (hat _ _)]⟩
  | c + 1, k, i, a, h, v5, v6, v7, hk, e => by
    obtain ⟨a1, h1, u6, u7, e1, b⟩ := st68 w cf v0 v1 v6 v7 v8 (one := k) hn (by rw [lrow_len, lm]) lf ha (by omega) e
    obtain ⟨a', h', w5, w6, w7, e', ih⟩ := row68 w cf v0 v1 v8 hn lm lf ha it hat c (k + 1) (i + 1) a1 h1 (some (.int k)) u6 u7 (by omega) e1
    refine ⟨a', h', w5, w6, w7, e', ?_⟩
    rw [List.range'_succ, List.map_cons, vI_cons]
    unfold forL
    rw [if_pos (hat _ _)]
    have b : loopStep (.nm 5) (exSs (P w) cf b68_2) (.int (k : Nat)) [v0, v1, some (.tup (vI far)), some (.ref a), some (.int at_), v5, v6, v7, v8] h = .ok (.nx, [v0, v1, some (.tup (vI far)), some (.ref a1), some (.int at_), some (.int k), u6, u7, v8]) h1 := b
    rw [b]
    exact ih
theorem all68 (w : Nat) (cf : CF) (v0 v1 v8 : Option Val) (hn : n ≤ 5) (ln : near.length = n) (lf : far.length = n) (it : Wk) (hat : ∀ j h, it.at j h = true) : ∀ (c k i a : Nat) (h : Hip) (v4 v5 v6 v7 : Option Val), k + c = n → h[a]? = some (.lst (vI (lall near far k))) →
    ∃ (a' : Nat) (h' : Hip) (u4 u5 u6 u7 : Option Val), h'[a']? = some (.lst (vI (lall near far n))) ∧
      forL it (loopStep (.nm 4) (exSs (P w) cf b68_3)) i (vI ((List.range' k c).map fun i : Nat => (i : Int))) [v0, v1, some (.tup (vI far)), some (.ref a), v4, v5, v6, v7, v8] h = .ok (.nx, [v0, v1, some (.tup (vI far)), some (.ref a'), u4, u5, u6, u7, v8]) h'
  | 0, k, i, a, h, v4, v5, v6, v7, hk, e => by
    have : k = n := by omega
    subst this
    exact ⟨a, h, v4, v5, v6, v7, e, by show forL it _ i [] _ _ = _; unfold forL; rw [if_pos (hat _ _)]⟩
  | c + 1, k, i, a, h, v4, v5, v6, v7, hk, e => by
    obtain ⟨a1, h1, u5, u6, u7, e1, b⟩ := row68 w cf v0 v1 v8 (m := lall near far k) (far := far) (at_ := k) hn (by rw [lall_len, ln]) lf (by omega) ⟨vI ((List.range k).map fun i : Nat => (i : Int)), none⟩ (fun _ _ => rfl) k 0 0 a h v5 v6 v7 (by omega) e
    obtain ⟨a', h', w4, w5, w6, w7, e', ih⟩ := all68 w cf v0 v1 v8 hn ln lf it hat c (k + 1) (i + 1) a1 h1 (some (.int k)) u5 u6 u7 (by omega) e1
    refine ⟨a', h', w4, w5, w6, w7, e', ?_⟩
    rw [List.range'_succ, List.map_cons, vI_cons]
    unfold forL
    rw [if_pos (hat _ _)]
    rw [← List.range_eq_range'] at b
    have b : loopStep (.nm 4) (exSs (P w) cf b68_3) (.int (k : Nat)) [v0, v1, some (.tup (vI far)), some (.ref a), v4, v5, v6, v7, v8] h = .ok (.nx, [v0, v1, some (.tup (vI far)), some (.ref a1), some (.int k), u5, u6, u7, v8]) h1 := by
      show exSs (P w) cf b68_3 [v0, v1, some (.tup (vI far)), some (.ref a), some (.int k), v5, v6, v7, v8] h = _
      exact x_last (s_loop (i_range (es_cons (e_var rfl) es_nil) (range_nat (by omega))) b)
    rw [b]
    exact ih
def firstsI (l : List Int) : Val → Option Val
  | .int x => if l.getD x.toNat 0 ∈ l.take x.toNat then none else some (.int x)
  | _ => none
theorem firstsI_nat (l : List Int) (i : Nat) : firstsI l (.int (i : Nat)) = if l.getD i 0 ∈ l.take i then none else some (.int (i : Nat)) := by
  show (if l.getD ((i : Nat) : Int).toNat 0 ∈ l.take ((i : Nat) : Int).toNat then none else some (Val.int ((i : Nat) : Int))) = _
  rw [Int.toNat_natCast]
theorem fm_len {φ ψ : Val → Option Val} (h : ∀ v, (φ v).isSome = (ψ v).isSome) : ∀ L : List Val, (L.filterMap φ).length = (L.filterMap ψ).length
  | [] => rfl
  | x :: L => by
    have hx := h x
    have ih := fm_len h L
    cases e1 : φ x with
    | none =>
      rw [e1] at hx
      cases e2 : ψ x with
      | none => rw [List.filterMap_cons_none e1, List.filterMap_cons_none e2, ih]
      | some y => rw [e2] at hx; cases hx
    | some y =>
      rw [e1] at hx
      cases e2 : ψ x with
      | none => rw [e2] at hx; cases hx
      | some z => rw [List.filterMap_cons_some e1, List.filterMap_cons_some e2, List.length_cons, List.length_cons, ih]
theorem firstsI_len (l : List Int) : ((vI ((List.range l.length).map fun i : Nat => (i : Int))).filterMap (firstsI l)).length = dn l := by
  rw [fm_len (ψ := firstsF l) (fun v => by
    cases v with
    | int x => unfold firstsI firstsF; by_cases c : l.getD x.toNat 0 ∈ l.take x.toNat <;> simp only [c, if_true, if_false] <;> rfl
    | _ => rfl), firsts_fm, vI_len, firsts_len]
theorem c68 (w d : Nat) (hn : n ≤ 5) (ln : near.length = n) (lf : far.length = n) (h : Hip) : callF (P w) (d + 1) 68 [.int n, .tup (vI near), .tup (vI far)] h = .ok (.int (lots n near far : Nat)) h := by
  obtain ⟨a, h1, u4, u5, u6, u7, e, el⟩ := all68 w (callF (P w) d) (some (.int n)) (some (.tup (vI near))) none (near := near) (far := far) hn ln lf ⟨vI ((List.range n).map fun i : Nat => (i : Int)), none⟩ (fun _ _ => rfl) n 0 0 0 [.lst (vI near)] none none none none (by omega) rfl
  rw [← List.range_eq_range'] at el
  have lm : (lall near far n).length = n := by rw [lall_len, ln]
  obtain ⟨g', eg⟩ := lcL_grow (k := ⟨vI ((List.range n).map fun i : Nat => (i : Int)), none⟩) (f := compStep (.nm 4) (wipes [some (.int n), some (.tup (vI near)), some (.tup (vI far)), some (.ref a), u4, u5, u6, u7, none] [4]) (evC (P w) (callF (P w) d) b68_4) (evE (P w) (callF (P w) d) b68_5)) (φ := firstsI (lall near far n)) (h0 := h1) (fun _ _ => rfl) (vI ((List.range n).map fun i : Nat => (i : Int))) [] 0 [] (fun x mx g => by
    obtain ⟨y, my, rfl⟩ := List.mem_map.mp mx
    obtain ⟨i, mi, rfl⟩ := List.mem_map.mp my
    have hi := List.mem_range.mp mi
    have e0 : (h1 ++ g)[a]? = some (.lst (vI (lall near far n))) := get_old e
    have ix := ix_lstA (x := (i : Int)) e0 (by omega) (by omega)
    rw [Int.toNat_natCast] at ix
    have ix := ix
    have sl := sl_lo (n := i) e0 (by omega)
    have ni := notin_I (h := (h1 ++ g) ++ [.lst (vI ((lall near far n).take i))]) (a := (h1 ++ g).length) (l := (lall near far n).take i) get_new ((lall near far n).getD i 0)
    refine ⟨g ++ [.lst (vI ((lall near far n).take i))], ?_⟩
    rw [← List.append_assoc]
    have φe : firstsI (lall near far n) (.int (i : Nat)) = if (lall near far n).getD i 0 ∈ (lall near far n).take i then none else some (.int (i : Nat)) := firstsI_nat _ _
    rw [φe]
    by_cases c : (lall near far n).getD i 0 ∈ (lall near far n).take i
    · rw [decide_eq_true c] at ni
      rw [if_pos c]
      exact comp_F (ρ' := [some (.int n), some (.tup (vI near)), some (.tup (vI far)), some (.ref a), some (.int i), u5, u6, u7, none]) rfl (e_cmp (e_ix (e_var rfl) (e_var rfl) ix) (e_slHi (e_var rfl) (e_var rfl) sl) ni)
    · rw [decide_eq_false c] at ni
      rw [if_neg c]
      exact comp_T (ρ' := [some (.int n), some (.tup (vI near)), some (.tup (vI far)), some (.ref a), some (.int i), u5, u6, u7, none]) rfl (e_cmp (e_ix (e_var rfl) (e_var rfl) ix) (e_slHi (e_var rfl) (e_var rfl) sl) ni) (e_var rfl)) (by rw [vI_len, List.length_map, List.length_range, List.length_nil]; omega)
  have fl := firstsI_len (lall near far n)
  rw [lm] at fl
  rw [List.append_nil, List.nil_append] at eg
  have ll := len_at (h := (h1 ++ g') ++ [.lst ((vI ((List.range n).map fun i : Nat => (i : Int))).filterMap (firstsI (lall near far n)))]) (a := (h1 ++ g').length) get_new
  rw [fl] at ll
  refine call_pure (fd := d68) rfl rfl (by simp [refsVs, refsV]) (ρ := [some (.int n), some (.tup (vI near)), some (.tup (vI far)), some (.ref a), u4, u5, u6, u7, none]) (g := (h1 ++ g') ++ [.lst ((vI ((List.range n).map fun i : Nat => (i : Int))).filterMap (firstsI (lall near far n)))]) ?_ (by simp [refsV]) h
  show exSs (P w) (callF (P w) d) (dropS 0 b68) [some (.int n), some (.tup (vI near)), some (.tup (vI far)), none, none, none, none, none, none] [] = _
  refine x_at rfl (s_asg (ρ' := [some (.int n), some (.tup (vI near)), some (.tup (vI far)), some (.ref 0), none, none, none, none, none]) (h1 := [.lst (vI near)]) (e_1 (e_var rfl) rfl) rfl) rfl ?_
  refine x_at rfl (s_loop (i_range (es_cons (e_var rfl) es_nil) (range_nat (by omega))) el) rfl ?_
  exact x_ret (e_1 (ec_lc (i_range (es_cons (e_var rfl) es_nil) (range_nat (by omega))) eg) ll)
end
end K97

set_option maxRecDepth 100000
namespace K97
open Z Fig
theorem fg_sh {n : Nat} (hn : n ≤ 5) {l : List Int} (f : Fg n l) : Sh 200 (.tup (vI l)) := by
  have := sh_ints (l := l) fun x m => by have := f.lt m; omega
  rw [f.len] at this
  exact this.mono (by omega)
theorem sh_nat {i : Nat} (h : i < 2 ^ 40) : Sh 41 (.int (i : Int)) := by
  refine sh_int (k := 40) (by omega) (by omega) ?_
  rw [Int.natAbs_natCast]
  by_cases h0 : i = 0
  · rw [h0]; decide
  · exact (Nat.log2_lt h0).mpr h
theorem fl_bl (b : Bool) : Fl (.bl b) := ⟨by simp only [refsV], fun _ => by simp only [deepW], by simp only [dat, PySem.PyData.canLay0], by simp only [dat, PySem.PyData.depth]; omega⟩
theorem sh_bl : Sh 10 (.bl true) := ⟨by decide +kernel, by decide +kernel, by decide +kernel⟩
theorem fl_pz (k : Int) : Fl (.tup [.tup [], .int k]) := ⟨by simp [refsV, refsVs], fun _ => by simp [deepW, deepWs], by simp [dat, dats, PySem.PyData.canLay0, PySem.PyData.canLayAll0], by simp [dat, dats, PySem.PyData.depth, PySem.PyData.depthAll]⟩
theorem sh_pz {k : Nat} (h : k < 2 ^ 40) : Sh 200 (.tup [.tup [], .int (k : Int)]) := by
  have h0 : Sh 3 (.tup []) := sh_tup (c := 41) (xs := []) fun x m => by cases m
  exact (sh_tup (c := 41) (xs := [.tup [], .int (k : Int)]) fun x m => by
    rcases List.mem_cons.mp m with rfl | m
    · exact h0.mono (by omega)
    · rw [List.mem_singleton.mp m]; exact sh_nat h).mono (by show 2 * (41 + 2) + 3 ≤ 200; omega)
theorem lots_le (n : Nat) {near far : List Int} (ln : near.length = n) : lots n near far ≤ n := by
  unfold lots
  have := dn_le (lall near far n)
  rw [lall_len, ln] at this
  exact this
theorem zf_rank {n : Nat} {near far : List Int} (z : Zr n near far) : rank n (zf n near far) = 0 := by
  unfold rank
  have : ((zf n near far).take n).filter (fun x => decide (x ∈ (zf n near far).drop n)) = [] := by
    rw [List.filter_eq_nil_iff]
    intro x m c
    have fz := zf_fg z
    obtain ⟨i, ei⟩ := List.mem_iff_getElem?.mp m
    obtain ⟨j, ej⟩ := List.mem_iff_getElem?.mp (of_decide_eq_true c)
    have hi : i < n := by
      have := (List.getElem?_eq_some_iff.mp ei).1
      rw [List.length_take] at this; omega
    have hj : j < n := by
      have := (List.getElem?_eq_some_iff.mp ej).1
      rw [List.length_drop, fz.len] at this; omega
    rw [List.getElem?_take_of_lt hi] at ei
    rw [List.getElem?_drop] at ej
    exact zf_tb z ⟨i, hi⟩ ⟨j, hj⟩ (show (zf n near far)[i]? = (zf n near far)[n + j]? by rw [ei, ej])
  rw [this]; rfl
/-- drawn and named -/
theorem draw_named (d : Nat) {cs gs : List Int} {s : Nat} {g : Hip} (hc : cs.length = 64) (hs : s < 1000000) {n : Nat} (hn1 : 1 ≤ n) (hn : n ≤ 5) {ρ : Env} {c : IO} {e : IE} (h0 : ρ[0]? = some (some (.ref 0))) (h1 : ρ[1]? = some (some (.int n)))
    (st : ∀ (x : Val) (h h' : Hip) (v : Val), callF (P 100) (d + 2) 21 [.ref 0, .int n] h = .ok v h' → compStep (.nm 9) (wipes ρ [9]) (evC (P 100) (callF (P 100) (d + 2)) c) (evE (P 100) (callF (P 100) (d + 2)) e) x h = .ok (some v) h') :
    ∃ (l gs' : List Int) (s' : Nat), l.length = n ∧ s' ≤ s + 5 ∧ evE (P 100) (callF (P 100) (d + 2)) (.call 25 (.cons (.lc [9] (.nm 9) (.range (.cons (.var 1) .nil)) c e) .nil)) ρ (SB cs gs s g) = .ok (.tup (vI (nam l))) (SB cs gs' s' (g ++ [.lst (vI l)])) := by
  obtain ⟨ys, h', ⟨gs', s', hs', rfl⟩, Q', ly, em⟩ := lcL_all (k := ⟨vI ((List.range n).map fun i : Nat => (i : Int)), none⟩) (f := compStep (.nm 9) (wipes ρ [9]) (evC (P 100) (callF (P 100) (d + 2)) c) (evE (P 100) (callF (P 100) (d + 2)) e)) (I := Iv cs s g) (Q := fun y => ∃ k : Int, y = .int k) 200 (fun _ _ _ _ => rfl) (vI ((List.range n).map fun i : Nat => (i : Int))) [] 0 0 (SB cs gs s g) (by simp; omega)
    ⟨gs, s, by omega, rfl⟩ (fun y m => by cases m) (fun x mx k h hk hI => by
      obtain ⟨gs2, s2, hs2, rfl⟩ := hI
      obtain ⟨k, gs3, k0, k1, e21⟩ := c21 100 d (sb_at (gs := gs2) (s := s2) (g := g) hc) (n : Int) (by omega) (by omega) (by omega)
      rw [sb_go] at e21
      exact ⟨.int k, _, ⟨gs3, s2 + 1, by omega, rfl⟩, ⟨k, rfl⟩, st _ _ _ _ e21⟩) (by simp; omega)
  obtain ⟨l, rfl⟩ := vals_ints Q'
  rw [vI_len, vI_len, List.length_map, List.length_range, List.length_nil, Nat.zero_add] at ly
  rw [vI_len, List.length_map, List.length_range] at hs'
  refine ⟨l, gs', s', ly, by omega, ?_⟩
  exact ec_call (es_cons (ec_lc (i_range (es_cons (e_var h1) es_nil) (range_nat (by omega))) em) es_nil) (c25 100 (d + 1) (g.length + 3) (by omega) sb_new)
end K97

set_option maxRecDepth 100000
namespace K97
open Z Fig
theorem hf0 {n : Nat} {l : List Int} (hl : l.length = n) : Hf n (nam l) [] := ⟨nam_nam l, by rw [nam_len, hl], by rw [List.length_nil]; omega, fun x m => (by cases m), fun i h => by rw [List.length_nil] at h; omega⟩
theorem zr_of {n : Nat} {l m : List Int} (hl : l.length = n) (hm : m.length = n) : Zr n (nam l) (nam m) :=
  ⟨by rw [nam_len, hl], by rw [nam_len, hm], fun x h => by have := nam_lt h; rw [hl] at this; exact this, fun x h => by have := nam_lt h; rw [hm] at this; exact this⟩
def xs1 (Z : List Int) (k : Nat) : List Val := [.tup (vI Z), .int 0, .tup [.tup [], .int (k : Int)]]
theorem xs1_fl (Z : List Int) (k : Nat) : ∀ x ∈ xs1 Z k, Fl x := fun x m => by
  simp only [xs1, List.mem_cons, List.not_mem_nil, or_false] at m
  rcases m with rfl | rfl | rfl
  · exact fl_vI _
  · exact fl_int _
  · exact fl_pz _
theorem xs1_sh {n : Nat} (hn : n ≤ 5) {Z : List Int} (f : Fg n Z) {k : Nat} (hk : k ≤ n) : ∀ x ∈ xs1 Z k, Sh 200 x := fun x m => by
  simp only [xs1, List.mem_cons, List.not_mem_nil, or_false] at m
  rcases m with rfl | rfl | rfl
  · exact fg_sh hn f
  · exact (sh_nat (i := 0) (by omega)).mono (by omega)
  · exact sh_pz (by omega)
def xsT (k : Nat) : List Val := [.int (k : Int), .int (k : Int), .bl true, .tup [.int 1, .int 1]]
def xsU (k K : Nat) : List Val := [.int ((K * k : Nat) : Int), .int ((k : Int) + ((K * k : Nat) : Int))]
theorem xsU_fl (k K : Nat) : ∀ x ∈ xsT k ++ xsU k K, Fl x := fun x m => by
  simp only [xsT, xsU, List.cons_append, List.nil_append, List.mem_cons, List.not_mem_nil, or_false] at m
  rcases m with rfl | rfl | rfl | rfl | rfl | rfl
  · exact fl_int _
  · exact fl_int _
  · exact fl_bl _
  · exact fl_vI [1, 1]
  · exact fl_int _
  · exact fl_int _
theorem xsU_sh {k K : Nat} (hk : k ≤ 5) (hK : K ≤ 1000000000) : ∀ x ∈ xsT k ++ xsU k K, Sh 200 x := fun x m => by
  have b : K * k ≤ 1000000000 * 5 := Nat.mul_le_mul hK hk
  simp only [xsT, xsU, List.cons_append, List.nil_append, List.mem_cons, List.not_mem_nil, or_false] at m
  rcases m with rfl | rfl | rfl | rfl | rfl | rfl
  · exact (sh_nat (by omega)).mono (by omega)
  · exact (sh_nat (by omega)).mono (by omega)
  · exact sh_bl.mono (by omega)
  · have := sh_ints (l := [1, 1]) fun x m => by
      simp only [List.mem_cons, List.not_mem_nil, or_false, or_self] at m
      omega
    exact this.mono (by show 2 * 13 + 3 ≤ 200; omega)
  · exact (sh_nat (by omega)).mono (by omega)
  · rw [← Int.natCast_add]
    exact (sh_nat (by omega)).mono (by omega)
theorem pw9 (h : Hip) : binOp .pow (.int 10) (.int 9) h = .ok (.int 1000000000) h := rfl
theorem c69 {cs gs : List Int} {s : Nat} {g0 : Hip} (hc : cs.length = 64) (hs : s < 10000) {n : Nat} (hn1 : 1 ≤ n) (hn : n ≤ 5) :
    ∃ (gs' : List Int) (s' : Nat), s' ≤ s + 20 ∧ callF (P 100) 11 69 [.ref 0, .int n] (SB cs gs s g0) = .ok (.bl true) (SB cs gs' s' g0) := by
  obtain ⟨l1, gs1, s1, ll1, hs1, e1⟩ := draw_named 8 (cs := cs) (gs := gs) (s := s) (g := []) hc (by omega) hn1 hn (ρ := [some (.ref 0), some (.int n), none, none, none, none, none, none, none, none, none]) (c := b69_0) (e := b69_1) rfl rfl (fun x h h' v e21 => comp_no rfl (ec_call (es_cons (e_var rfl) (es_cons (e_var rfl) es_nil)) e21))
  obtain ⟨l2, gs2, s2, ll2, hs2, e2⟩ := draw_named 8 (cs := cs) (gs := gs1) (s := s1) (g := [.lst (vI l1)]) hc (by omega) hn1 hn (ρ := [some (.ref 0), some (.int n), some (.tup (vI (nam l1))), none, none, none, none, none, none, none, none]) (c := b69_2) (e := b69_3) rfl rfl (fun x h h' v e21 => comp_no rfl (ec_call (es_cons (e_var rfl) (es_cons (e_var rfl) es_nil)) e21))
  have f1 := hf0 ll1
  have f2 := hf0 ll2
  have z := zr_of ll1 ll2
  generalize nam l1 = near at *
  generalize nam l2 = far at *
  have fz := zf_fg z
  have kl := lots_le n (far := far) z.l1
  have rk := zf_rank z
  have rg := zf_rgs z
  have lf := zf_left z
  have zu := zf_up z
  have zr := zf_rd hn1 z
  have hv0 := (zf_hv z).left fz fz
  rw [lf] at hv0
  have ex : ∀ h, callF (P 100) 10 65 [.int n, hf far [], hf near []] h = .ok (.tup [.tup [], .int (lots n near far : Nat)]) h := fun h => by
    obtain ⟨C, _, lC, e⟩ := c65 4 hn1 hn f2 f1 h
    rw [zf_chains] at lC
    rw [List.length_eq_zero_iff.mp lC, hv0] at e
    exact e
  have e63 := fun h => c63 100 4 hn1 hn f1 f2 h
  have e50 := fun h => c50 100 5 hn1 hn fz h
  have e51 := fun h => c51 4 hn1 hn fz fz h
  have e66 := fun h => c66 6 hn1 hn fz h
  have e67 := fun h => c67 100 6 hn1 hn fz h
  have e17 : ∀ h, callF (P 100) 10 17 [.int n, .tup (vI (zf n near far))] h = .ok (.tup [.int 1, .int 1]) h := fun h => c17 4 hn1 hn fz zr h
  have e68 := fun h => c68 100 9 hn z.l1 z.l2 h
  rw [rk] at e50
  rw [lf] at e51
  rw [decide_eq_true zu] at e66
  rw [rg] at e67
  have e38 := fun k (hk : k ≤ 1000000000) h => c38 4 hn1 hn fz (k := k) hk h
  have e41 := fun k (hk : k ≤ 1000000000) h => c41 5 hn1 hn fz (k := k) hk h
  have zT := zf_Tl z
  have zP := zf_pw z
  have eN : nam (near ++ far.map fun x => (n : Int) + x) = zf n near far := rfl
  generalize lots n near far = k at *
  generalize hZ : zf n near far = Zf at *
  let h2 : Hip := SB cs gs2 s2 [.lst (vI l1), .lst (vI l2)]
  let h3 : Hip := SB cs gs2 s2 [.lst (vI l1), .lst (vI l2), .lst (vI near)]
  let h4 : Hip := SB cs gs2 s2 [.lst (vI l1), .lst (vI l2), .lst (vI near), .lst (vI (far.map fun x => (n : Int) + x))]
  let h5 : Hip := SB cs gs2 s2 [.lst (vI l1), .lst (vI l2), .lst (vI near), .lst (vI (far.map fun x => (n : Int) + x)), .lst (vI (near ++ far.map fun x => (n : Int) + x))]
  let h6 : Hip := SB cs gs2 s2 [.lst (vI l1), .lst (vI l2), .lst (vI near), .lst (vI (far.map fun x => (n : Int) + x)), .lst (vI (near ++ far.map fun x => (n : Int) + x)), .lst (xs1 Zf k)]
  let g7 : Hip := [.lst (vI l1), .lst (vI l2), .lst (vI near), .lst (vI (far.map fun x => (n : Int) + x)), .lst (vI (near ++ far.map fun x => (n : Int) + x)), .lst (xs1 Zf k), .lst (xs1 Zf k)]
  obtain ⟨k0, gs3, k00, k01, e21⟩ := c21 100 8 (sb_at (gs := gs2) (s := s2) (g := g7) hc) 1000000000 (by omega) (by omega) (by omega)
  rw [sb_go] at e21
  obtain ⟨K, rfl⟩ : ∃ K : Nat, k0 = (K : Int) := ⟨k0.toNat, by omega⟩
  have hK : K + 1 ≤ 1000000000 := by omega
  have e38 := e38 (K + 1) hK
  have e41 := e41 (K + 1) hK
  rw [zT K] at e38 e41
  rw [zP K, rg] at e41
  let h7 : Hip := SB cs gs3 (s2 + 1) g7
  let h8 : Hip := SB cs gs3 (s2 + 1) (g7 ++ [.lst (xsT k)])
  let h9 : Hip := SB cs gs3 (s2 + 1) (g7 ++ [.lst (xsT k), .lst (xsU k K)])
  let h10 : Hip := SB cs gs3 (s2 + 1) (g7 ++ [.lst (xsT k), .lst (xsU k K), .lst (xsT k ++ xsU k K)])
  let h11 : Hip := SB cs gs3 (s2 + 1) (g7 ++ [.lst (xsT k), .lst (xsU k K), .lst (xsT k ++ xsU k K), .lst (xsT k ++ xsU k K)])
  have e24 := c24l 100 9 (a := 8) (b := 9) (xs := xs1 Zf k) (c := 200) (h := SB cs gs2 s2 g7) (by decide) rfl rfl (xs1_fl _ _) (xs1_sh hn fz kl) (by show 3 * (200 + 2) + 3 < _; omega)
  have e24b := c24l 100 9 (a := 12) (b := 13) (xs := xsT k ++ xsU k K) (c := 200) (h := h11) (by decide) rfl rfl (xsU_fl _ _) (xsU_sh (by omega) (by omega)) (by show 6 * (200 + 2) + 3 < _; omega)
  have mA : ∀ h, binOp .mul (.int (((K + 1 : Nat) : Int) - 1)) (.int (k : Int)) h = .ok (.int ((K * k : Nat) : Int)) h := fun h => by
    rw [mul_int (mulOk_l (by omega)), show (((K + 1 : Nat) : Int) - 1) = (K : Int) by omega, Int.natCast_mul]
  have mB : ∀ h, binOp .mul (.int ((K + 1 : Nat) : Int)) (.int (k : Int)) h = .ok (.int ((k : Int) + ((K * k : Nat) : Int))) h := fun h => by
    rw [mul_int (mulOk_l (by omega)), ← Int.natCast_mul, Nat.succ_mul, Int.natCast_add, Int.add_comm]
  have L := lc_ints (k := ⟨vI far, none⟩) (f := compStep (.nm 10) (wipes [some (.ref 0), some (.int n), some (.tup (vI near)), some (.tup (vI far)), some (.tup (vI Zf)), none, none, none, none, none, none] [10]) (evC (P 100) (callF (P 100) 10) b69_4) (evE (P 100) (callF (P 100) 10) b69_5)) (g := fun x => (n : Int) + x) (h := h3) (fun _ => rfl) far 0 (fun x m => comp_no (ρ' := [some (.ref 0), some (.int n), some (.tup (vI near)), some (.tup (vI far)), some (.tup (vI Zf)), none, none, none, none, none, some (.int x)]) rfl (e_2 (e_var rfl) (e_var rfl) add_int)) (by rw [z.l2]; omega)
  have ad := add_I (h := h4) (a := 5) (b := 6) (xs := near) (ys := far.map fun x => (n : Int) + x) rfl rfl (by rw [List.length_map, z.l1, z.l2]; omega)
  have e25 := c25 100 9 7 (l := near ++ far.map fun x => (n : Int) + x) (by rw [List.length_append, List.length_map, z.l1, z.l2]; omega) (h := h5) rfl
  rw [eN] at e25
  have al := add_lst (h := h9) (a := 10) (b := 11) (xs := xsT k) (ys := xsU k K) rfl rfl (by show 4 + 2 < _; omega)
  refine ⟨gs3, s2 + 1, by omega, ?_⟩
  have := st_call (P := P 100) (d := 10) (f := 69) (fd := d69) (vs := [.int n]) (v := .bl true) (ρ := [some (.ref 0), some (.int n), some (.tup (vI near)), some (.tup (vI far)), some (.tup (vI Zf)), some (.tup (vI Zf)), some (.int k), some (.int ((K + 1 : Nat) : Int)), some (.ref 12), none, none]) (g := g7 ++ [.lst (xsT k), .lst (xsU k K), .lst (xsT k ++ xsU k K), .lst (xsT k ++ xsU k K)]) (gs' := gs3) (s' := s2 + 1) rfl rfl rfl (sb_at (gs := gs) (s := s) (g := g0) hc) rfl (by
    show exSs (P 100) (callF (P 100) 10) (dropS 0 b69) [some (.ref 0), some (.int n), none, none, none, none, none, none, none, none, none] (SB cs gs s []) = .ok _ h11
    refine x_at rfl (s_asg e1 rfl) rfl ?_
    refine x_at rfl (s_asg e2 rfl) rfl ?_
    refine x_at rfl (s_asg (ec_call (es_cons (e_var rfl) (es_cons (e_tup (es_cons (e_var rfl) (es_cons (e_tup es_nil rfl) es_nil)) rfl) (es_cons (e_tup es_nil rfl) (es_cons (e_tup (es_cons (e_var rfl) (es_cons (e_tup es_nil rfl) es_nil)) rfl) es_nil)))) (e63 h2)) rfl) rfl ?_
    refine x_at rfl (s_asg (ec_call (es_cons (e_2 (h1 := h3) (h2 := h4) (e_1 (e_var rfl) rfl) (ec_lc (i_seq (e_var rfl) rfl) L) ad) es_nil) e25) rfl) rfl ?_
    refine x_at rfl (s_asg (ec_call (es_cons (e_var rfl) (es_cons (e_var rfl) (es_cons (e_var rfl) es_nil))) (e68 h5)) rfl) rfl ?_
    refine x_at rfl (s_ifF (h1 := SB cs gs2 s2 g7) (e_not (ec_call (es_cons (h1 := h6) (e_lst (h1 := h5) (es_cons (e_var rfl) (es_cons (ec_call (es_cons (e_var rfl) (es_cons (e_var rfl) es_nil)) (e50 h5)) (es_cons (ec_call (es_cons (e_var rfl) (es_cons (e_tup (es_cons (e_var rfl) (es_cons (e_tup es_nil rfl) es_nil)) rfl) (es_cons (e_tup (es_cons (e_var rfl) (es_cons (e_tup es_nil rfl) es_nil)) rfl) es_nil))) (ex h5)) es_nil))) rfl)
      (es_cons (h1 := SB cs gs2 s2 g7) (e_lst (h1 := h6) (es_cons (e_var rfl) (es_cons e_con (es_cons (e_tup (es_cons (e_tup es_nil rfl) (es_cons (e_var rfl) es_nil)) rfl) es_nil))) rfl) es_nil)) e24)) x_nil) rfl ?_
    refine x_at rfl (s_asg (ρ' := [some (.ref 0), some (.int n), some (.tup (vI near)), some (.tup (vI far)), some (.tup (vI Zf)), some (.tup (vI Zf)), some (.int k), some (.int ((K + 1 : Nat) : Int)), none, none, none]) (e_2 (ec_call (es_cons (e_var rfl) (es_cons (e_2 e_con e_con (pw9 _)) es_nil)) e21) e_con add_int) (by rw [show (K : Int) + 1 = ((K + 1 : Nat) : Int) by omega]; rfl)) rfl ?_
    refine x_at rfl (s_asg (ρ' := [some (.ref 0), some (.int n), some (.tup (vI near)), some (.tup (vI far)), some (.tup (vI Zf)), some (.tup (vI Zf)), some (.int k), some (.int ((K + 1 : Nat) : Int)), some (.ref 10), none, none]) (h1 := h8) (e_lst (h1 := h7) (es_cons (ec_call (es_cons (e_var rfl) (es_cons (e_var rfl) es_nil)) (e67 h7)) (es_cons (ec_call (es_cons (e_var rfl) (es_cons (e_var rfl) (es_cons (e_var rfl) es_nil))) (e51 h7)) (es_cons (ec_call (es_cons (e_var rfl) (es_cons (e_var rfl) es_nil)) (e66 h7)) (es_cons (ec_call (es_cons (e_var rfl) (es_cons (e_var rfl) es_nil)) (e17 h7)) es_nil)))) rfl) rfl) rfl ?_
    refine x_at rfl (s_asg (ρ' := [some (.ref 0), some (.int n), some (.tup (vI near)), some (.tup (vI far)), some (.tup (vI Zf)), some (.tup (vI Zf)), some (.int k), some (.int ((K + 1 : Nat) : Int)), some (.ref 12), none, none]) (h1 := h10) (e_2 (h2 := h9) (e_var rfl) (e_lst (h1 := h8) (es_cons (ec_call (es_cons (e_var rfl) (es_cons (e_var rfl) (es_cons (e_var rfl) es_nil))) (e38 h8)) (es_cons (ec_call (es_cons (e_var rfl) (es_cons (e_var rfl) (es_cons (e_var rfl) es_nil))) (e41 h8)) es_nil)) rfl) al) rfl) rfl ?_
    exact x_ret (ec_call (es_cons (e_var rfl) (es_cons (h1 := h11) (e_lst (h1 := h10) (es_cons (e_var rfl) (es_cons (e_var rfl) (es_cons e_con (es_cons (e_tup (es_cons e_con (es_cons e_con es_nil)) rfl) (es_cons (e_2 (e_2 (e_var rfl) e_con sub_int) (e_var rfl) (mA h10)) (es_cons (e_2 (e_var rfl) (e_var rfl) (mB h10)) es_nil)))))) rfl) es_nil)) e24b))
  rw [sb_go] at this
  exact this
end K97

set_option maxRecDepth 100000
namespace K97
open Z Fig
theorem e_chain {P : Pg} {cf : CF} {ρ : Env} {h h1 h2 h3 : Hip} {o o' : Cop} {a b c : IE} {x y z : Val} {t : Bool} (ha : evE P cf a ρ h = .ok x h1) (hb : evE P cf b ρ h1 = .ok y h2) (h12 : cmpOp o x y h2 = some true) (hc : evE P cf c ρ h2 = .ok z h3) (h23 : cmpOp o' y z h3 = some t) : evE P cf (.chain o o' a b c) ρ h = .ok (.bl t) h3 := by
  simp only [evE, ha, hb, hc, Res.bind, h12, h23, ok?]
section
variable {n : Nat} {fig : List Int}
theorem take_at (hl : fig.length = 2 * n) {j : Nat} (h : j < n) : fig[j]? = some ((fig.take n).getD j 0) := by
  rw [← getD_some (l := fig.take n) (by rw [List.length_take]; omega), List.getElem?_take_of_lt h]
theorem drop_at (hl : fig.length = 2 * n) {j : Nat} (h : j < n) : fig[n + j]? = some ((fig.drop n).getD j 0) := by
  rw [← getD_some (l := fig.drop n) (by rw [List.length_drop]; omega), List.getElem?_drop]
theorem in_take (hl : fig.length = 2 * n) {y : Int} : y ∈ fig.take n ↔ ∃ t : Fin n, fig[t.val]? = some y := by
  rw [List.mem_iff_getElem?]
  constructor
  · rintro ⟨i, e⟩
    have hi : i < n := by
      have := (List.getElem?_eq_some_iff.mp e).1
      rw [List.length_take] at this; omega
    rw [List.getElem?_take_of_lt hi] at e
    exact ⟨⟨i, hi⟩, e⟩
  · rintro ⟨t, e⟩
    exact ⟨t.val, by rw [List.getElem?_take_of_lt t.isLt]; exact e⟩
theorem in_drop (hl : fig.length = 2 * n) {y : Int} : y ∈ fig.drop n ↔ ∃ b : Fin n, fig[n + b.val]? = some y := by
  rw [List.mem_iff_getElem?]
  constructor
  · rintro ⟨i, e⟩
    have hi : i < n := by
      have := (List.getElem?_eq_some_iff.mp e).1
      rw [List.length_drop] at this; omega
    rw [List.getElem?_drop] at e
    exact ⟨⟨i, hi⟩, e⟩
  · rintro ⟨t, e⟩
    exact ⟨t.val, by rw [List.getElem?_drop]; exact e⟩
theorem hf_of {near far o : List Int} (H : HI near far o) (ln : near.length = n) (hn : n ≤ 5) : Hf n (nam near) o := by
  have nl := nam_len near
  refine ⟨nam_nam _, by rw [nl, ln], by have := H.le; omega, fun x m => ?_, fun i h => pw_asc H.pw h⟩
  obtain ⟨j, hj, _, rfl⟩ := (H.mem x).mp m
  have mm : (nam near).getD j 0 ∈ nam near := mem_getD (by omega)
  exact ⟨(nam_lt mm).1, mm⟩
theorem hv_of (fg : Fg n fig) {o o' : List Int} (H : HI (fig.drop n) (fig.take n) o) (H' : HI (fig.take n) (fig.drop n) o') : Hv (kr n fig) (kr n fig) (nam (fig.drop n)) (nam (fig.take n)) o o' := by
  have hl := fg.len
  have ld : (fig.drop n).length = n := by rw [List.length_drop]; omega
  have lt : (fig.take n).length = n := by rw [List.length_take]; omega
  have nd := nam_len (fig.drop n)
  have nt := nam_len (fig.take n)
  refine ⟨by omega, by omega, fun i hi => ?_, fun i hi => ?_, ⟨fun i j => ?_, fun i j => ?_⟩, fun x => ?_, fun x => ?_⟩
  · have := nam_lt (mem_getD (l := nam (fig.drop n)) (i := i) (by omega))
    rw [ld] at this; exact this
  · have := nam_lt (mem_getD (l := nam (fig.take n)) (i := i) (by omega))
    rw [lt] at this; exact this
  · have hi := i.isLt
    have hj := j.isLt
    refine (getD_eq (by omega) (by omega)).trans (((nam_ker _).eq _ _).trans ?_)
    rw [List.getElem?_drop, List.getElem?_drop]
    exact Iff.rfl
  · have hi := i.isLt
    have hj := j.isLt
    refine (getD_eq (by omega) (by omega)).trans (((nam_ker _).eq _ _).trans ?_)
    rw [List.getElem?_take_of_lt hi, List.getElem?_take_of_lt hj]
    exact Iff.rfl
  · rw [H.mem]
    constructor
    · rintro ⟨j, hj, m, e⟩
      obtain ⟨t, et⟩ := (in_take hl).mp m
      exact ⟨⟨j, by omega⟩, e, t, et.trans (drop_at hl (by omega)).symm⟩
    · rintro ⟨j, e, t, r⟩
      have r : fig[t.val]? = fig[n + j.val]? := r
      exact ⟨j.val, by rw [ld]; exact j.isLt, (in_take hl).mpr ⟨t, r.trans (drop_at hl j.isLt)⟩, e⟩
  · rw [H'.mem]
    constructor
    · rintro ⟨j, hj, m, e⟩
      obtain ⟨t, et⟩ := (in_drop hl).mp m
      exact ⟨⟨j, by omega⟩, e, t, et.trans (take_at hl (by omega)).symm⟩
    · rintro ⟨j, e, t, r⟩
      have r : fig[n + t.val]? = fig[j.val]? := r
      exact ⟨j.val, by rw [lt]; exact j.isLt, (in_drop hl).mpr ⟨t, r.trans (take_at hl j.isLt)⟩, e⟩
end
/-- one turn of the law -/
theorem turn70 {cs : List Int} (hc : cs.length = 64) (gs : List Int) (s : Nat) (hs : s < 5000) (g : Hip) (v0 v2 v3 v4 v5 v6 v7 v8 : Option Val) : ∃ (gs' : List Int) (s' : Nat) (g' : Hip) (u3 u4 u5 u6 u7 u8 : Option Val), s' ≤ s + 100 ∧
    exSs (P 100) (callF (P 100) 11) (dropS 0 b70_0) [v0, some (.ref 0), v2, v3, v4, v5, v6, v7, v8] (SB cs gs s g) = .ok (.nx, [v0, some (.ref 0), v2, u3, u4, u5, u6, u7, u8]) (SB cs gs' s' g') := by
  obtain ⟨k1, gs1, k10, k11, e1⟩ := c21 100 9 (sb_at (gs := gs) (s := s) (g := g) hc) 5 (by omega) (by omega) (by omega)
  rw [sb_go] at e1
  obtain ⟨n, hn1, hn, en⟩ : ∃ n : Nat, 1 ≤ n ∧ n ≤ 5 ∧ 1 + k1 = (n : Int) := ⟨(1 + k1).toNat, by omega, by omega, by omega⟩
  obtain ⟨gs2, s2, hs2, e2⟩ := c69 (cs := cs) (gs := gs1) (s := s + 1) (g0 := g) hc (by omega) hn1 hn
  obtain ⟨fig, gs3, s3, fg, hs3, e3⟩ := c33 100 8 (sb_at (gs := gs2) (s := s2) (g := g) hc) (by omega) hn
  rw [sb_go] at e3
  obtain ⟨o, H, e60⟩ := c60 100 6 hn1 hn fg
  obtain ⟨o', H', e59⟩ := c59 100 6 hn1 hn fg
  have hl := fg.len
  have V := hv_of fg H H'
  have vl := V.left fg fg
  have vr := V.rgs fg
  have f1 := hf_of (n := n) H (by rw [List.length_drop]; omega) hn
  have f2 := hf_of (n := n) H' (by rw [List.length_take]; omega) hn
  obtain ⟨C, hC, lC, e65⟩ := c65 5 hn1 hn f1 f2 (SB cs gs3 s3 g)
  rw [← lC, vl] at vr
  rw [vl] at e65
  have e28 := c28 9 hn fg fg (SB cs gs3 s3 g)
  have e51 := c51 5 hn1 hn fg fg (SB cs gs3 s3 g)
  have t2 : Tl n fig 2 = left n fig fig := by
    show Tl n fig 1 + left n (lup n (strt n) fig) fig = _
    rw [Tl_one fg, strt_lup fg, Nat.zero_add]
  have e38 : callF (P 100) 11 38 [.int n, .tup (vI fig), .int 2] (SB cs gs3 s3 g) = .ok (.int (Tl n fig 2 : Nat)) (SB cs gs3 s3 g) := c38 5 hn1 hn fg (k := 2) (by omega) (SB cs gs3 s3 g)
  rw [t2] at e38
  have kl := left_le n fig fig
  generalize left n fig fig = k at *
  let g1 : Hip := g ++ [.lst [.int (k : Int), .int (k : Int), .int (k : Int)]]
  let g2 : Hip := g1 ++ [.lst [.int (k : Int), .int (k : Int), .int (k : Int)]]
  have e67 := c67 100 7 hn1 hn fg (SB cs gs3 s3 g2)
  have e24 := c24l 100 10 (a := g.length + 3) (b := g1.length + 3) (xs := [.int (k : Int), .int (k : Int), .int (k : Int)]) (c := 200) (h := SB cs gs3 s3 g2) (by simp [g1]) (sb_get (get_old get_new)) sb_new (fun x m => by
      simp only [List.mem_cons, List.not_mem_nil, or_false, or_self] at m
      rw [m]; exact fl_int _) (fun x m => by
      simp only [List.mem_cons, List.not_mem_nil, or_false, or_self] at m
      rw [m]; exact (sh_nat (by omega)).mono (by omega)) (by show 3 * (200 + 2) + 3 < _; omega)
  have ix : ixOp (.tup [.tup (vI (lup n fig fig)), .int (k : Nat)]) (.int 1) (SB cs gs3 s3 g) = some (.int (k : Nat)) := rfl
  have c1 := le_int (k : Int) (rgs n fig : Nat) (SB cs gs3 s3 g2)
  rw [decide_eq_true (by omega)] at c1
  have c2 := le_int (rgs n fig : Nat) ((k : Int) + (C.length : Nat)) (SB cs gs3 s3 g2)
  rw [decide_eq_true (by omega)] at c2
  refine ⟨gs3, s3, g2, some (.int n), some (.tup (vI fig)), some (.int (k : Nat)), some (.ref (g.length + 3)), some (.tup C), some (.int (k : Nat)), by omega, ?_⟩
  refine x_at rfl (s_asg (ρ' := [v0, some (.ref 0), v2, some (.int n), v4, v5, v6, v7, v8]) (e_2 e_con (ec_call (es_cons (e_var rfl) (es_cons e_con es_nil)) e1) add_int) (by rw [en]; rfl)) rfl ?_
  refine x_at rfl (s_ifF (e_not (ec_call (es_cons (e_var rfl) (es_cons (e_var rfl) es_nil)) e2)) x_nil) rfl ?_
  refine x_at rfl (s_asg (ρ' := [v0, some (.ref 0), v2, some (.int n), some (.tup (vI fig)), v5, v6, v7, v8]) (ec_call (es_cons (e_var rfl) (es_cons (e_var rfl) es_nil)) e3) rfl) rfl ?_
  refine x_at rfl (s_asg (ρ' := [v0, some (.ref 0), v2, some (.int n), some (.tup (vI fig)), some (.int (k : Nat)), v6, v7, v8]) (e_ix (ec_call (es_cons (e_var rfl) (es_cons (e_var rfl) (es_cons (e_var rfl) es_nil))) e28) e_con ix) rfl) rfl ?_
  refine x_at rfl (s_asg (ρ' := [v0, some (.ref 0), v2, some (.int n), some (.tup (vI fig)), some (.int (k : Nat)), v6, some (.tup C), some (.int (k : Nat))]) (ec_call (es_cons (e_var rfl) (es_cons (ec_call (es_cons (e_var rfl) (es_cons (e_var rfl) es_nil)) (e60 _)) (es_cons (ec_call (es_cons (e_var rfl) (es_cons (e_var rfl) es_nil)) (e59 _)) es_nil))) e65) rfl) rfl ?_
  refine x_at rfl (s_asg (ρ' := [v0, some (.ref 0), v2, some (.int n), some (.tup (vI fig)), some (.int (k : Nat)), some (.ref (g.length + 3)), some (.tup C), some (.int (k : Nat))]) (h1 := SB cs gs3 s3 g1) (e_lst (es_cons (e_var rfl) (es_cons (ec_call (es_cons (e_var rfl) (es_cons (e_var rfl) (es_cons (e_var rfl) es_nil))) e51) (es_cons (ec_call (es_cons (e_var rfl) (es_cons (e_var rfl) (es_cons e_con es_nil))) e38) es_nil))) rfl) rfl) rfl ?_
  refine x_at rfl (s_ifF (h1 := SB cs gs3 s3 g2) (e_or1 (h1 := SB cs gs3 s3 g2) (e_not (b := true) (ec_call (h1 := SB cs gs3 s3 g2) (es_cons (h1 := SB cs gs3 s3 g1) (e_var rfl) (es_cons (h1 := SB cs gs3 s3 g2) (e_lst (h1 := SB cs gs3 s3 g1) (es_cons (e_var rfl) (es_cons (e_var rfl) (es_cons (e_var rfl) es_nil))) rfl) es_nil)) e24)) (e_not (b := true) (e_1 (e_var rfl) (is_tup C _)))) x_nil) rfl ?_
  exact x_last (s_ifF (h1 := SB cs gs3 s3 g2) (e_not (e_chain (e_var rfl) (ec_call (es_cons (e_var rfl) (es_cons (e_var rfl) es_nil)) e67) c1 (e_2 (e_var rfl) (e_1 (e_var rfl) (len_tup C _)) add_int) c2)) x_nil)
theorem truth : ∀ ns : List Int, ns.length ≤ 63 → callF (P 100) 12 70 [.lv (ns.map .int)] [] = .ok (.bl true) [] := by
  intro ns hl
  obtain ⟨cs, gs, hc, e22⟩ := c22 100 9 ns (by omega)
  have rg : rangeOf [.int (1 + ((min 4 ns.length : Nat) : Int))] = some (vI ((List.range (1 + min 4 ns.length)).map fun i : Nat => (i : Int))) := by
    have := range_nat (n := 1 + min 4 ns.length) (by omega)
    rw [show ((1 + min 4 ns.length : Nat) : Int) = 1 + ((min 4 ns.length : Nat) : Int) by omega] at this
    exact this
  obtain ⟨ρ', h', _, el⟩ := forL_inv (k := ⟨vI ((List.range (1 + min 4 ns.length)).map fun i : Nat => (i : Int)), none⟩) (f := loopStep (.nm 2) (exSs (P 100) (callF (P 100) 11) b70_0)) (I := fun j ρ h => ∃ (gs : List Int) (s : Nat) (g : Hip) (v2 v3 v4 v5 v6 v7 v8 : Option Val), s ≤ 100 * j ∧ ρ = [some (.lv (vI ns)), some (.ref 0), v2, v3, v4, v5, v6, v7, v8] ∧ h = SB cs gs s g) 10 (fun _ _ _ _ _ => rfl)
    (vI ((List.range (1 + min 4 ns.length)).map fun i : Nat => (i : Int))) 0 0 [some (.lv (vI ns)), some (.ref 0), none, none, none, none, none, none, none] (SB cs gs 0 []) (by simp; omega) ⟨gs, 0, [], none, none, none, none, none, none, none, by omega, rfl, rfl⟩ (fun x mx j ρ h hj hI => by
      obtain ⟨gs, s, g, v2, v3, v4, v5, v6, v7, v8, hs, rfl, rfl⟩ := hI
      obtain ⟨gs', s', g', u3, u4, u5, u6, u7, u8, hs', e⟩ := turn70 hc gs s (by omega) g (some (.lv (vI ns))) (some x) v3 v4 v5 v6 v7 v8
      exact ⟨_, _, ⟨gs', s', g', some x, u3, u4, u5, u6, u7, u8, by omega, rfl, rfl⟩, e⟩)
  refine call_pure (fd := d70) (ρ := ρ') (g := h') rfl rfl (by show refsVs [.lv (vI ns)] = []; simp only [refsVs, refsV, vI_refs, List.append_nil]) ?_ (by simp only [refsV]) []
  show exSs (P 100) (callF (P 100) 11) (dropS 0 b70) [some (.lv (vI ns)), none, none, none, none, none, none, none, none] [] = _
  refine x_at rfl (s_asg (ec_call (es_cons (e_var rfl) es_nil) e22) rfl) rfl ?_
  refine x_at rfl (s_loop (i_range (es_cons (e_2 e_con (e_bi (es_cons e_con (es_cons (e_1 (e_var rfl) (len_lv ns _)) es_nil)) (min2_int 4 ns.length _)) add_int) es_nil) rg) el) rfl ?_
  exact x_ret e_con
end K97

open PySem PySem.W PyProof.Rows in
set_option maxRecDepth 100000 in
set_option maxHeartbeats 0 in
theorem PySem.Challenge.cw_hookedcords_k97_whole_rings_of_halves_holds : PySem.Challenge.rw_hookedcords_k97_whole_rings_of_halves.Holds := by
  w_on; o_law; k_head; (case hw => w_witness2)
  k_fill
  refine Z.walkC (l := PySem.Challenge.rw_hookedcords_k97_whole_rings_of_halves) (n := 63) (dp := 12) (G := K97.G) (Pg' := K97.P 100) (fL := 70) rfl (by decide) rfl ⟨⟨rfl, by decide, by decide⟩, rfl⟩ (fun w h Y => PySem.W.kIn_of Y) ?F K97.d70 rfl rfl K97.truth
  case F =>
    intro w mg fa h KX Gn hmg
    refine' K97.law_t (w := w) KX Gn hmg ?aC1 ?a0 ?l0 ?c0 ?k0 ?a1 ?l1 ?c1 ?k1 ?a2 ?l2 ?c2 ?k2 ?a3 ?l3 ?c3 ?k3 ?a4 ?l4 ?c4 ?k4 ?a5 ?l5 ?c5 ?k5 ?a6 ?l6 ?c6 ?k6 ?a7 ?l7 ?c7 ?k7 ?a8 ?l8 ?c8 ?k8 ?a9 ?l9 ?c9 ?k9 ?a47 ?l47 ?c47 ?k47 ?a48 ?l48 ?c48 ?k48 ?a49 ?l49 ?c49 ?k49 ?a50 ?l50 ?c50 ?k50 ?a51 ?l51 ?c51 ?k51 ?a52 ?l52 ?c52 ?k52 ?a53 ?l53 ?c53 ?k53 ?a54 ?l54 ?c54 ?k54 ?a55 ?l55 ?c55 ?k55 ?a56 ?l56 ?c56 ?k56 ?a57 ?l57 ?c57 ?k57 ?a58 ?l58 ?c58 ?k58 ?a59 ?l59 ?c59 ?k59 ?a60 ?l60 ?c60 ?k60 ?a61 ?l61 ?c61 ?k61 ?a62 ?l62 ?c62 ?k62 ?a63 ?l63 ?c63 ?k63 ?a64 ?l64 ?c64 ?k64 ?a65 ?l65 ?c65 ?k65 ?a10 ?i10 ?l10 ?c10 ?k10 ?a11 ?i11 ?l11 ?c11 ?k11 ?a12 ?i12 ?l12 ?c12 ?k12 ?a13 ?i13 ?l13 ?c13 ?k13 ?a37 ?i37 ?l37 ?c37 ?k37 ?a14 ?l14 ?c14 ?k14 ?a15 ?l15 ?c15 ?k15 ?a38 ?l38 ?c38 ?k38 ?a17 ?l17 ?c17 ?k17 ?a66 ?l66 ?c66 ?k66 ?a39 ?l39 ?c39 ?k39 ?a40 ?l40 ?c40 ?k40 ?a67 ?l67 ?c67 ?k67 ?a41 ?l41 ?c41 ?k41 ?a19 ?l19 ?c19 ?k19 ?a20 ?l20 ?c20 ?k20 ?a21 ?l21 ?c21 ?k21 ?a22 ?l22 ?c22 ?k22 ?a24 ?l24 ?c24 ?k24 ?a25 ?l25 ?c25 ?k25 ?a28 ?l28 ?c28 ?k28 ?a33 ?l33 ?c33 ?k33 ?a68 ?l68 ?c68 ?k68 ?a69 ?l69 ?c69 ?k69 ?a70 ?l70 ?c70 ?k70 ?pg1 ?hd1 ?po1 ?sa1 ?mk1 ?kc1 ?n1_0 ?n1_1 ?n1_4 ?n1_3 ?n1_2 ?vv0 ?vv1 ?z_len ?z_max ?z_min ?z_int ?z_tuple ?z_list ?z_sorted ?z_sum ?z_isinstance ?z_repr ?z_all ?z_any ?z_abs ?z_range ?z_enumerate ?z_zip ?z_bool ?z_str ?z_divmod ?z_set 100
    (case aC1 => k_is)
    (case a0 => k_is)
    (case l0 => k_is)
    (case c0 => k_is)
    (case k0 => k_is)
    (case a1 => k_is)
    (case l1 => k_is)
    (case c1 => k_is)
    (case k1 => k_is)
    (case a2 => k_is)
    (case l2 => k_is)
    (case c2 => k_is)
    (case k2 => k_is)
    (case a3 => k_is)
    (case l3 => k_is)
    (case c3 => k_is)
    (case k3 => k_is)
    (case a4 => k_is)
    (case l4 => k_is)
    (case c4 => k_is)
    (case k4 => k_is)
    (case a5 => k_is)
    (case l5 => k_is)
    (case c5 => k_is)
    (case k5 => k_is)
    (case a6 => k_is)
    (case l6 => k_is)
    (case c6 => k_is)
    (case k6 => k_is)
    (case a7 => k_is)
    (case l7 => k_is)
    (case c7 => k_is)
    (case k7 => k_is)
    (case a8 => k_is)
    (case l8 => k_is)
    (case c8 => k_is)
    (case k8 => k_is)
    (case a9 => k_is)
    (case l9 => k_is)
    (case c9 => k_is)
    (case k9 => k_is)
    (case a47 => k_is)
    (case l47 => k_is)
    (case c47 => k_is)
    (case k47 => k_is)
    (case a48 => k_is)
    (case l48 => k_is)
    (case c48 => k_is)
    (case k48 => k_is)
    (case a49 => k_is)
    (case l49 => k_is)
    (case c49 => k_is)
    (case k49 => k_is)
    (case a50 => k_is)
    (case l50 => k_is)
    (case c50 => k_is)
    (case k50 => k_is)
    (case a51 => k_is)
    (case l51 => k_is)
    (case c51 => k_is)
    (case k51 => k_is)
    (case a52 => k_is)
    (case l52 => k_is)
    (case c52 => k_is)
    (case k52 => k_is)
    (case a53 => k_is)
    (case l53 => k_is)
    (case c53 => k_is)
    (case k53 => k_is)
    (case a54 => k_is)
    (case l54 => k_is)
    (case c54 => k_is)
    (case k54 => k_is)
    (case a55 => k_is)
    (case l55 => k_is)
    (case c55 => k_is)
    (case k55 => k_is)
    (case a56 => k_is)
    (case l56 => k_is)
    (case c56 => k_is)
    (case k56 => k_is)
    (case a57 => k_is)
    (case l57 => k_is)
    (case c57 => k_is)
    (case k57 => k_is)
    (case a58 => k_is)
    (case l58 => k_is)
    (case c58 => k_is)
    (case k58 => k_is)
    (case a59 => k_is)
    (case l59 => k_is)
    (case c59 => k_is)
    (case k59 => k_is)
    (case a60 => k_is)
    (case l60 => k_is)
    (case c60 => k_is)
    (case k60 => k_is)
    (case a61 => k_is)
    (case l61 => k_is)
    (case c61 => k_is)
    (case k61 => k_is)
    (case a62 => k_is)
    (case l62 => k_is)
    (case c62 => k_is)
    (case k62 => k_is)
    (case a63 => k_is)
    (case l63 => k_is)
    (case c63 => k_is)
    (case k63 => k_is)
    (case a64 => k_is)
    (case l64 => k_is)
    (case c64 => k_is)
    (case k64 => k_is)
    (case a65 => k_is)
    (case l65 => k_is)
    (case c65 => k_is)
    (case k65 => k_is)
    (case a10 => k_is)
    (case i10 => k_is)
    (case l10 => k_is)
    (case c10 => k_is)
    (case k10 => k_is)
    (case a11 => k_is)
    (case i11 => k_is)
    (case l11 => k_is)
    (case c11 => k_is)
    (case k11 => k_is)
    (case a12 => k_is)
    (case i12 => k_is)
    (case l12 => k_is)
    (case c12 => k_is)
    (case k12 => k_is)
    (case a13 => k_is)
    (case i13 => k_is)
    (case l13 => k_is)
    (case c13 => k_is)
    (case k13 => k_is)
    (case a37 => k_is)
    (case i37 => k_is)
    (case l37 => k_is)
    (case c37 => k_is)
    (case k37 => k_is)
    (case a14 => k_is)
    (case l14 => k_is)
    (case c14 => k_is)
    (case k14 => k_is)
    (case a15 => k_is)
    (case l15 => k_is)
    (case c15 => k_is)
    (case k15 => k_is)
    (case a38 => k_is)
    (case l38 => k_is)
    (case c38 => k_is)
    (case k38 => k_is)
    (case a17 => k_is)
    (case l17 => k_is)
    (case c17 => k_is)
    (case k17 => k_is)
    (case a66 => k_is)
    (case l66 => k_is)
    (case c66 => k_is)
    (case k66 => k_is)
    (case a39 => k_is)
    (case l39 => k_is)
    (case c39 => k_is)
    (case k39 => k_is)
    (case a40 => k_is)
    (case l40 => k_is)
    (case c40 => k_is)
    (case k40 => k_is)
    (case a67 => k_is)
    (case l67 => k_is)
    (case c67 => k_is)
    (case k67 => k_is)
    (case a41 => k_is)
    (case l41 => k_is)
    (case c41 => k_is)
    (case k41 => k_is)
    (case a19 => k_is)
    (case l19 => k_is)
    (case c19 => k_is)
    (case k19 => k_is)
    (case a20 => k_is)
    (case l20 => k_is)
    (case c20 => k_is)
    (case k20 => k_is)
    (case a21 => k_is)
    (case l21 => k_is)
    (case c21 => k_is)
    (case k21 => k_is)
    (case a22 => k_is)
    (case l22 => k_is)
    (case c22 => k_is)
    (case k22 => k_is)
    (case a24 => k_is)
    (case l24 => k_is)
    (case c24 => k_is)
    (case k24 => k_is)
    (case a25 => k_is)
    (case l25 => k_is)
    (case c25 => k_is)
    (case k25 => k_is)
    (case a28 => k_is)
    (case l28 => k_is)
    (case c28 => k_is)
    (case k28 => k_is)
    (case a33 => k_is)
    (case l33 => k_is)
    (case c33 => k_is)
    (case k33 => k_is)
    (case a68 => k_is)
    (case l68 => k_is)
    (case c68 => k_is)
    (case k68 => k_is)
    (case a69 => k_is)
    (case l69 => k_is)
    (case c69 => k_is)
    (case k69 => k_is)
    (case a70 => k_is)
    (case l70 => k_is)
    (case c70 => k_is)
    (case k70 => k_is)
    (case pg1 => k_is)
    (case hd1 => k_is)
    (case po1 => k_is)
    (case sa1 => k_is)
    (case mk1 => k_is)
    (case kc1 => k_is)
    (case n1_0 => k_is)
    (case n1_1 => k_is)
    (case n1_4 => k_is)
    (case n1_3 => k_is)
    (case n1_2 => k_is)
    (case vv0 => k_is)
    (case vv1 => k_is)
    (case z_len => k_is)
    (case z_max => k_is)
    (case z_min => k_is)
    (case z_int => k_is)
    (case z_tuple => k_is)
    (case z_list => k_is)
    (case z_sorted => k_is)
    (case z_sum => k_is)
    (case z_isinstance => k_is)
    (case z_repr => k_is)
    (case z_all => k_is)
    (case z_any => k_is)
    (case z_abs => k_is)
    (case z_range => k_is)
    (case z_enumerate => k_is)
    (case z_zip => k_is)
    (case z_bool => k_is)
    (case z_str => k_is)
    (case z_divmod => k_is)
    (case z_set => k_is)

