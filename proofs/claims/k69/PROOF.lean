import PyProof.Rows.All
import Wide.All
import OpenK.AllK
import Wide.FinOn
import PySem.Str
import HandS.ForMost
import HandS.ExcCtx
import HandS.CallSlots
import HandS.Flow
import HandS.Style
import HandS.Deep
import HandS.IsInst
import HandS.RaiseMore
import HandS.More
import HandS.SortOrd
import HandS.SortRule
import HandS.SortInts
import KE.KSortTupAny
import PyProof.Rows.StrMeet
import HandS.TryOnly
import KE.GoesComp
import HandS.Comp
import HandS.Conv
import HandS.Text
import PyProof.Rows.StrClose
import HandS.Rev
import HandS.Small
import HandS.ExcIs
import HandS.Defaults
import HandS.HotCalls
import HandS.Head0
import HandS.Head1
import HandS.Head2
import HandS.HeadEnd
import HandS.HeadHook1
import HandS.HeadHook2
import HandS.HeadHook3
import HandS.HeadHook4
import KE.KStateDown
import Lean
import PySem.Challenge.RW_manychoose_k69_pledges_won_over
section
set_option Elab.async false
/-! MP: a small evaluator of the Python subset: tree values, a store of cells for what changes. -/
namespace MP

abbrev Nm := List Char

/-- values: trees; `obj n` is the n-th cell of the store, `exc` an exception (its class, what it was made with) -/
inductive T where
  | non | bl (b : Bool) | int (i : Int) | str (s : Nm)
  | lst (xs : List T) | tup (xs : List T)
  | dct (ks vs : List T) | set (xs : List T)
  | obj (n : Nat) | exc (c : Nat) (xs : List T)
  /-- the script itself -/
  | scr (xs : List Int)
  deriving Inhabited

namespace T
mutual
/-- plain data of depth at most n -/
def okN : Nat → T → Bool
  | _, .non => true
  | _, .bl _ => true
  | _, .int _ => true
  | _, .str _ => true
  | 0, .lst _ => false
  | n + 1, .lst xs => okNs n xs
  | 0, .tup _ => false
  | n + 1, .tup xs => okNs n xs
  | _, .dct _ _ => false
  | _, .set _ => false
  | _, .obj _ => false
  | _, .exc _ _ => false
  | _, .scr _ => false
def okNs : Nat → List T → Bool
  | _, [] => true
  | n, x :: xs => okN n x && okNs n xs
end
/-- plain data -/
abbrev ok (t : T) : Bool := okN 60 t
mutual
/-- Python's == of plain data -/
def eqv : T → T → Bool
  | .non, y => (match y with | .non => true | _ => false)
  | .bl a, y => (match y with | .bl b => a == b | .int j => (if a then 1 else 0) == j | _ => false)
  | .int i, y => (match y with | .bl b => i == (if b then 1 else 0) | .int j => i == j | _ => false)
  | .str a, y => (match y with | .str b => a == b | _ => false)
  | .lst xs, y => (match y with | .lst ys => eqvs xs ys | _ => false)
  | .tup xs, y => (match y with | .tup ys => eqvs xs ys | _ => false)
  | .dct _ _, _ => false
  | .set _, _ => false
  | .obj _, _ => false
  | .exc _ _, _ => false
  | .scr _, _ => false
def eqvs : List T → List T → Bool
  | [], ys => (match ys with | [] => true | _ => false)
  | x :: xs, ys => (match ys with | y :: ys => eqv x y && eqvs xs ys | [] => false)
end
mutual
/-- no cell from k on is told of -/
def upTo : Nat → T → Bool
  | _, .non => true
  | _, .bl _ => true
  | _, .int _ => true
  | _, .str _ => true
  | k, .lst xs => upTos k xs
  | k, .tup xs => upTos k xs
  | k, .dct ks vs => upTos k ks && upTos k vs
  | k, .set xs => upTos k xs
  | k, .obj n => decide (n < k)
  | k, .exc _ xs => upTos k xs
  | _, .scr _ => true
def upTos : Nat → List T → Bool
  | _, [] => true
  | k, x :: xs => upTo k x && upTos k xs
end
mutual
/-- the same tree -/
def same : T → T → Bool
  | .non, y => (match y with | .non => true | _ => false)
  | .bl a, y => (match y with | .bl b => a == b | _ => false)
  | .int i, y => (match y with | .int j => i == j | _ => false)
  | .str a, y => (match y with | .str b => a == b | _ => false)
  | .lst xs, y => (match y with | .lst ys => sames xs ys | _ => false)
  | .tup xs, y => (match y with | .tup ys => sames xs ys | _ => false)
  | .dct ks vs, y => (match y with | .dct kz vz => sames ks kz && sames vs vz | _ => false)
  | .set xs, y => (match y with | .set ys => sames xs ys | _ => false)
  | .obj n, y => (match y with | .obj k => n == k | _ => false)
  | .exc c xs, y => (match y with | .exc d ys => c == d && sames xs ys | _ => false)
  | .scr xs, y => (match y with | .scr ys => xs == ys | _ => false)
def sames : List T → List T → Bool
  | [], ys => (match ys with | [] => true | _ => false)
  | x :: xs, ys => (match ys with | y :: ys => same x y && sames xs ys | [] => false)
end
def rank : T → Nat
  | .non => 0 | .bl _ => 1 | .int _ => 2 | .str _ => 3 | .lst _ => 4 | .tup _ => 5 | .dct _ _ => 6 | .set _ => 7 | .obj _ => 8 | .exc _ _ => 9 | .scr _ => 10
/-- the order of letters -/
def cmpS : Nm → Nm → Ordering
  | [], [] => .eq
  | [], _ :: _ => .lt
  | _ :: _, [] => .gt
  | a :: x, b :: y => if a = b then cmpS x y else if a.toNat < b.toNat then .lt else .gt
end T

/-- what stands at a cell -/
inductive Cell where
  | dead
  | lst (xs : List T)
  | dct (ks vs : List T)
  | ins (c : Nat) (fs : List (Nat × T))
  deriving Inhabited
abbrev Store := List Cell
def Cell.upTo (k : Nat) : Cell → Bool
  | .dead => true
  | .lst xs => T.upTos k xs
  | .dct ks vs => T.upTos k ks && T.upTos k vs
  | .ins _ fs => T.upTos k (fs.map (·.2))

inductive Res (α : Type) where
  | ok (a : α) (m : Store)
  | exc (c : Nat) (xs : List T) (m : Store)
  | stuck
def Res.bind {α β : Type} (r : Res α) (f : α → Store → Res β) : Res β :=
  match r with
  | .ok a m => f a m
  | .exc c xs m => .exc c xs m
  | .stuck => .stuck
@[simp] theorem Res.bind_ok {α β : Type} (a : α) (m : Store) (f : α → Store → Res β) : (Res.ok a m).bind f = f a m := rfl
@[simp] theorem Res.bind_exc {α β : Type} (c : Nat) (xs : List T) (m : Store) (f : α → Store → Res β) : (Res.exc c xs m : Res α).bind f = .exc c xs m := rfl
@[simp] theorem Res.bind_stuck {α β : Type} (f : α → Store → Res β) : (Res.stuck : Res α).bind f = .stuck := rfl
def Res.ofO {α : Type} (o : Option α) (m : Store) : Res α := match o with | some a => .ok a m | none => .stuck
@[simp] theorem Res.ofO_some {α : Type} (a : α) (m : Store) : Res.ofO (some a) m = .ok a m := rfl
@[simp] theorem Res.ofO_none {α : Type} (m : Store) : (Res.ofO none m : Res α) = .stuck := rfl

/-- the longest list, text -/
def LINE : Nat := 16777216

inductive Bop where | add | sub | mul | fdiv | mod | pow
  deriving DecidableEq
inductive Cop where | eq | ne | lt | le | gt | ge | is | isnot | isin | notin
  deriving DecidableEq
/-- what isinstance asks for -/
inductive Ty where | int | bool | str | list | tuple | dict | cls (c : Nat)
  deriving DecidableEq
/-- built-in functions of values -/
inductive Bi where | len | abs | int | str | bool | repr | list | tuple | dict | sorted | sum | max | min | max2 | min2
  deriving DecidableEq
/-- built-in methods -/
inductive Mt where | append | extend | insert | pop | pop1 | index | join | get | get2 | count | split | startswith | setdefault | dpop | find | partition | replace | upper
  deriving DecidableEq

section
variable (m : Store)
/-- the items of a list -/
def vwL : T → Option (List T)
  | .lst xs => some xs
  | .obj n => (match m[n]? with | some (.lst xs) => some xs | _ => none)
  | _ => none
/-- a dict's keys and values -/
def vwD : T → Option (List T × List T)
  | .dct ks vs => some (ks, vs)
  | .obj n => (match m[n]? with | some (.dct ks vs) => some (ks, vs) | _ => none)
  | _ => none
/-- a list cell read as a list -/
def res : T → T
  | .obj n => (match m[n]? with | some (.lst xs) => .lst xs | _ => .obj n)
  | t => t
def truth : T → Option Bool
  | .non => some false
  | .bl b => some b
  | .int i => some (i != 0)
  | .str s => if s.length ≤ LINE then some (!s.isEmpty) else none
  | .tup xs => some (!xs.isEmpty)
  | t => (match vwL m t with
    | some xs => some (!xs.isEmpty)
    | none => (match vwD m t with | some (ks, _) => some (!ks.isEmpty) | none => none))
end
def small (i : Int) : Bool := decide (-(18446744073709551616) < i) && decide (i < 18446744073709551616)
def bopT (m : Store) (o : Bop) (x y : T) : Option T :=
  match o, x, y with
  | .add, .int i, .int j => some (.int (i + j))
  | .sub, .int i, .int j => some (.int (i - j))
  | .mul, .int i, .int j => if small i || small j then some (.int (i * j)) else none
  | .fdiv, .int i, .int j => if j ≠ 0 ∧ j.natAbs < 1073741824 then some (.int (i.fdiv j)) else none
  | .mod, .int i, .int j => if j ≠ 0 then some (.int (i.fmod j)) else none
  | .pow, .int i, .int j => if 0 ≤ j ∧ j ≤ 1000000 ∧ i.natAbs < 18446744073709551616 then some (.int (i ^ j.toNat)) else none
  | .add, .str a, .str b => if a.length + b.length ≤ LINE then some (.str (a ++ b)) else none
  | .add, .tup a, .tup b => if a = [] then none else if a.length + b.length ≤ LINE then some (.tup (a ++ b)) else none
  | .add, x, y => (match vwL m x, vwL m y with
    | some a, some b => if a.length + b.length ≤ LINE then some (.lst (a ++ b)) else none
    | _, _ => none)
  | _, _, _ => none
/-- plain data, a list cell read as a list -/
def dat (m : Store) (t : T) : Option T := if (res m t).ok then some (res m t) else none
def ordT (o : Cop) (r : Ordering) : Bool := match o with
  | .lt => r == .lt
  | .le => r != .gt
  | .gt => r == .gt
  | .ge => r != .lt
  | _ => false
/-- the place of a key -/
def findK (k : T) : List T → Option Nat
  | [] => none
  | x :: xs => if T.eqv x k then some 0 else (findK k xs).map (· + 1)
/-- what may be a key -/
def keyOk : T → Bool
  | .int _ => true
  | .str _ => true
  | _ => false
def flatT : T → Bool
  | .non => true
  | .bl _ => true
  | .int _ => true
  | .str _ => true
  | _ => false
/-- is it among these -/
def memL (m : Store) (x : T) (ys : List T) : Option Bool := (dat m x).bind fun x => if (T.lst ys).ok then some (ys.any fun z => T.eqv z x) else none
def memT (m : Store) (x y : T) : Option Bool :=
  match y with
  | .str b => (match x with | .str [c] => some (b.contains c) | _ => none)
  | .tup ys => if flatT x && ys.all flatT then some (ys.any fun z => T.eqv z x) else none
  | y => (match vwL m y with
    | some ys => memL m x ys
    | none => (vwD m y).bind fun d => if keyOk x then some (findK x d.1).isSome else none)
def isNon : T → Bool
  | .non => true
  | _ => false
def isT (x y : T) : Option Bool :=
  match y with
  | .non => some (isNon x)
  | .bl b => (match x with | .bl a => some (a == b) | _ => none)
  | _ => none
def cmpT (m : Store) (o : Cop) (x y : T) : Option Bool :=
  match o with
  | .eq => (dat m x).bind fun a => (dat m y).bind fun b => some (T.eqv a b)
  | .ne => (dat m x).bind fun a => (dat m y).bind fun b => some (!T.eqv a b)
  | .is => isT x y
  | .isnot => (isT x y).map (!·)
  | .isin => memT m x y
  | .notin => (memT m x y).map (!·)
  | o => (match x, y with
    | .int i, .int j => some (ordT o (compare i j))
    | .str a, .str b => some (ordT o (T.cmpS a b))
    | _, _ => none)
/-- the place that an index means -/
def ixT (n : Nat) (i : Int) : Option Nat := if 0 ≤ i then (if i < n then some i.toNat else none) else if -(n : Int) ≤ i then some (i + n).toNat else none
def atT {α : Type} (xs : List α) (i : Int) : Option α := (ixT xs.length i).bind fun j => xs[j]?
def idxL (xs : List T) (k : T) : Option T := match k with | .int i => atT xs i | _ => none
def idxT (m : Store) (x k : T) : Option T :=
  match x, k with
  | .tup xs, .int i => atT xs i
  | .str s, .int i => if s.length ≤ LINE then (atT s i).map fun c => .str [c] else none
  | .scr xs, .int i => (atT xs i).map .int
  | x, k => (match vwL m x with
    | some xs => idxL xs k
    | none => (vwD m x).bind fun d => if keyOk k then (findK k d.1).bind fun j => d.2[j]? else none)
/-- a slice's bound -/
def cutB (n d : Nat) : Option Int → Nat
  | none => d
  | some v => if v < 0 then (v + (n : Int)).toNat else min v.toNat n
def cutT {α : Type} (xs : List α) (lo hi : Option Int) : List α := (xs.drop (cutB xs.length 0 lo)).take (cutB xs.length xs.length hi - cutB xs.length 0 lo)
def sliceT (m : Store) (x : T) (lo hi : Option Int) : Option T :=
  match x with
  | .str s => if s.length ≤ LINE then some (.str (cutT s lo hi)) else none
  | .tup xs => if cutB xs.length 0 lo = 0 ∧ cutB xs.length xs.length hi = xs.length then none else some (.tup (cutT xs lo hi))
  | x => (vwL m x).map fun xs => .lst (cutT xs lo hi)
/-- a bound as it is evaluated -/
def toPart : T → Option (Option Int)
  | .non => some none
  | .int i => some (some i)
  | _ => none
/-- what a walk over a value gives -/
def itemsT (m : Store) : T → Option (List T)
  | .tup xs => some xs
  | .str s => some (s.map fun c => .str [c])
  | t => (match vwL m t with | some xs => some xs | none => (vwD m t).map (·.1))
/-- the name of a value's type -/
def typN (m : Store) : T → Option String
  | .non => some "NoneType"
  | .bl _ => some "bool"
  | .int _ => some "int"
  | .str _ => some "str"
  | .lst _ => some "list"
  | .tup _ => some "tuple"
  | .obj n => (match m[n]? with
    | some (.lst _) => some "list"
    | some (.dct _ _) => some "dict"
    | _ => none)
  | .dct _ _ => some "dict"
  | _ => none
def Ty.nm : Ty → String
  | .int => "int" | .bool => "bool" | .str => "str" | .list => "list" | .tuple => "tuple" | .dict => "dict" | .cls _ => ""
/-- a type is the other one, or under it -/
def tySub (a b : String) : Bool := a == b || (a == "bool" && b == "int")
def isTy (sub : Nat → Nat → Option Bool) (m : Store) (t : T) (y : Ty) : Option Bool :=
  match y with
  | .cls d => (match t with | .exc c _ => sub c d | _ => none)
  | y => (typN m t).map fun a => tySub a y.nm
def isTys (sub : Nat → Nat → Option Bool) (m : Store) (t : T) : List Ty → Option Bool
  | [] => some false
  | y :: ys => (isTy sub m t y).bind fun b => if b then some true else isTys sub m t ys
def intsOf : List T → Option (List Int)
  | [] => some []
  | .int i :: r => (intsOf r).map (i :: ·)
  | _ :: _ => none
/-- 0 .. 9 -/
def figs : Nat → Nm := fun n => (toString n).toList
def showI (i : Int) : Nm := if i < 0 then '-' :: figs i.natAbs else figs i.natAbs
/-- what a sort goes by -/
abbrev At := Sum Int (List Nat)
def atLt : At → At → Bool
  | .inl a, .inl b => decide (a < b)
  | .inl _, .inr _ => true
  | .inr _, .inl _ => false
  | .inr a, .inr b => decide (a < b)
def lexA : List At → List At → Bool
  | [], [] => false
  | [], _ :: _ => true
  | _ :: _, [] => false
  | x :: r, y :: t => atLt x y || (!atLt y x && lexA r t)
def keyF : T → Option At
  | .int i => some (.inl i)
  | .str s => some (.inr (s.map Char.toNat))
  | _ => none
def keyFs : List T → Option (List At)
  | [] => some []
  | x :: r => (keyF x).bind fun k => (keyFs r).map (k :: ·)
def keyT : T → List At
  | .int i => [.inl i]
  | .str s => [.inr (s.map Char.toNat)]
  | .tup xs => (keyFs xs).getD []
  | _ => []
def colF : T → Option Bool
  | .int _ => some false
  | .str _ => some true
  | _ => none
def colFs : List T → Option (List Bool)
  | [] => some []
  | x :: r => (colF x).bind fun k => (colFs r).map (k :: ·)
/-- ints, texts, tuples of such with these columns -/
def sortKd : T → Option (Nat × List Bool)
  | .int _ => some (0, [])
  | .str _ => some (1, [])
  | .tup (x :: r) => (colFs (x :: r)).map fun c => (2, c)
  | _ => none
/-- all are of one kind -/
def sortOk (xs : List T) : Bool := match xs with
  | [] => true
  | x :: r => (match sortKd x with | some k => r.all fun y => sortKd y == some k | none => false) && (match x with | .str _ => decide (xs.length < 64) | _ => true)
def ltT (x y : T) : Bool := lexA (keyT x) (keyT y)
def insT (x : T) : List T → List T
  | [] => [x]
  | y :: r => if ltT y x then y :: insT x r else x :: y :: r
def sortT : List T → List T
  | [] => []
  | x :: r => insT x (sortT r)
def maxI : Int → List Int → Int
  | a, [] => a
  | a, b :: r => maxI (if b > a then b else a) r
def minI : Int → List Int → Int
  | a, [] => a
  | a, b :: r => minI (if b < a then b else a) r
def biT (m : Store) (f : Bi) (xs : List T) : Option T :=
  match f, xs with
  | .len, [x] => (match x with
    | .str s => if s.length ≤ LINE then some (.int s.length) else none
    | .tup xs => some (.int xs.length)
    | .set xs => some (.int xs.length)
    | .scr xs => some (.int xs.length)
    | x => (match vwL m x with
      | some xs => some (.int xs.length)
      | none => (vwD m x).map fun d => .int d.1.length))
  | .abs, [.int i] => some (.int (if i < 0 then -i else i))
  | .int, [.int i] => some (.int i)
  | .int, [.bl b] => some (.int (if b then 1 else 0))
  | .bool, [x] => (match x with | .int i => some (.bl (i != 0)) | .bl b => some (.bl b) | x => (vwL m x).map fun xs => .bl (!xs.isEmpty))
  | .str, [.int i] => if i.natAbs.log2 < 1920 then some (.str (showI i)) else none
  | .repr, [.bl b] => some (.str (if b then ['T', 'r', 'u', 'e'] else ['F', 'a', 'l', 's', 'e']))
  | .list, [x] => (match x with
    | .scr xs => some (.lst (xs.map .int))
    | .tup xs => some (.lst xs)
    | x => (vwL m x).map .lst)
  | .tuple, [x] => (match x with | .tup xs => some (.tup xs) | x => (vwL m x).map .tup)
  | .dict, [x] => (vwD m x).map fun d => .dct d.1 d.2
  | .sorted, [x] => (match vwL m x with | some xs => if sortOk xs then some (.lst (sortT xs)) else none | none => none)
  | .sum, [x] => (match vwL m x with | some xs => (intsOf xs).map fun l => .int l.sum | none => none)
  | .max, [x] => (match vwL m x with | some xs => (match intsOf xs with | some (a :: r) => some (.int (maxI a r)) | _ => none) | none => none)
  | .min, [x] => (match vwL m x with | some xs => (match intsOf xs with | some (a :: r) => some (.int (minI a r)) | _ => none) | none => none)
  | .max2, [.int i, .int j] => some (.int (if j > i then j else i))
  | .min2, [.int i, .int j] => some (.int (if j < i then j else i))
  | _, _ => none

/-! ### the words -/
inductive Tgt where
  | one (i : Nat)
  | many (is : List Nat)
mutual
inductive E where
  | cst (t : T)
  /-- a name of the module with a value that is known -/
  | glo (x : Nat) (t : T)
  | var (i : Nat)
  | bin (o : Bop) (a b : E)
  | neg (a : E)
  | cmp (o : Cop) (a b : E)
  | chain (o p : Cop) (a b c : E)
  | and (a b : E)
  | or (a b : E)
  | not (a : E)
  | ite (c a b : E)
  | list (es : EL)
  | tup (es : EL)
  | dct (ks vs : EL)
  | idx (a k : E)
  /-- a[lo:hi]; a bound that is not written is `cst non` -/
  | slice (a lo hi : E)
  | comp (own : List Nat) (tg : Tgt) (it : It) (c e : E)
  | compX (own : List Nat) (tg : Tgt) (it : It) (c e : E)
  | comp2 (own : List Nat) (tg : Tgt) (it : It) (c : E) (own2 : List Nat) (tg2 : Tgt) (it2 : It) (c2 e : E)
  | scomp (own : List Nat) (tg : Tgt) (it : It) (c e : E)
  | dcomp (own : List Nat) (tg : Tgt) (it : It) (c k v : E)
  /-- f(args), filled up with defaults -/
  | callF (f : Nat) (args : EL) (ds : List T)
  | callB (f : Bi) (args : EL)
  /-- list(..) of a walk -/
  | listI (it : It)
  | isinst (a : E) (ys : List Ty)
  | meth (f : Mt) (o : E) (args : EL)
  | mut (f : Mt) (o : E) (args : EL)
  | callM (f : Nat) (o : E) (args : EL)
  | new (c : Nat) (args : EL)
  | attr (o : E) (f : Nat)
inductive EL where
  | nil
  | cons (e : E) (r : EL)
/-- what a loop walks -/
inductive It where
  | of (e : E)
  | rng (a : E)
  | rng2 (a b : E)
  | rng3 (a b c : E)
  | rev (e : E)
  | zip (a b : E)
end

structure Ctx where
  call : Nat → List T → Store → Res (T × Bool)
  fuel : Nat
  /-- subclasses (of exceptions) -/
  sub : Nat → Nat → Option Bool
  /-- the def of a class's method -/
  meth : Nat → Nat → Option Nat
  /-- the def of a class's __init__ -/
  ini : Nat → Option Nat
  /-- what the def that tells a refused deed's kind says of an exception -/
  rf : Nat → Option Nm

abbrev Env := List (Option T)
def Env.get (env : Env) (i : Nat) : Option T := (env[i]?).bind id
def wipe (env : Env) : List Nat → Env
  | [] => env
  | i :: r => (wipe env r).set i none
def setAll (env : Env) : List Nat → List T → Option Env
  | [], [] => some env
  | i :: is, t :: ts => setAll (env.set i (some t)) is ts
  | _, _ => none
/-- a target is set -/
def Tgt.set (g : Tgt) (m : Store) (t : T) (env : Env) : Option Env :=
  match g with
  | .one i => some (env.set i (some t))
  | .many is => (match t with
    | .tup xs => setAll env is xs
    | t => (vwL m t).bind fun xs => setAll env is xs)

/-- a walk's items, and what must stand through it -/
structure Walk where
  xs : List T
  /-- the cell that is walked -/
  at? : Option Nat := none
  /-- it is a dict -/
  isD : Bool := false
def Walk.ok (w : Walk) (m : Store) : Bool :=
  match w.at? with
  | none => true
  | some n => (match m[n]? with
    | some (.lst xs) => !w.isD && T.sames xs w.xs
    | some (.dct ks _) => w.isD && T.sames ks w.xs
    | _ => false)
def walkOf (m : Store) (t : T) : Option Walk :=
  match t with
  | .tup xs => some ⟨xs, none, false⟩
  | .str s => some ⟨s.map fun c => .str [c], none, false⟩
  | .lst xs => some ⟨xs, none, false⟩
  | .dct ks _ => some ⟨ks, none, true⟩
  | .obj n => (match m[n]? with
    | some (.lst xs) => some ⟨xs, some n, false⟩
    | some (.dct ks _) => some ⟨ks, some n, true⟩
    | _ => none)
  | _ => none
def rngOk (i : Int) : Bool := decide (-(4611686018427387904) ≤ i) && decide (i < 4611686018427387904)
/-- lo, lo + 1, .. -/
def upFrom (lo : Int) : Nat → List T
  | 0 => []
  | n + 1 => .int lo :: upFrom (lo + 1) n
def downFrom (lo : Int) : Nat → List T
  | 0 => []
  | n + 1 => .int lo :: downFrom (lo - 1) n

/-- one list of what the turns give -/
def compL (w : Walk) (f : T → Store → Res (Option T)) : List T → Store → Res (List T)
  | [], m => if w.ok m then .ok [] m else .stuck
  | t :: r, m => if w.ok m then
      (match f t m with
      | .ok o m1 => (match compL w f r m1 with
        | .ok ys m2 => .ok (match o with | some y => y :: ys | none => ys) m2
        | _ => .stuck)
      | _ => .stuck)
    else .stuck
/-- .. a turn may raise -/
def compLX (w : Walk) (f : T → Store → Res (Option T)) : List T → Store → Res (List T)
  | [], m => if w.ok m then .ok [] m else .stuck
  | t :: r, m => if w.ok m then
      (match f t m with
      | .ok o m1 => (match compLX w f r m1 with
        | .ok ys m2 => .ok (match o with | some y => y :: ys | none => ys) m2
        | .exc c xs m2 => .exc c xs m2
        | .stuck => .stuck)
      | .exc c xs m1 => .exc c xs m1
      | .stuck => .stuck)
    else .stuck
/-- .. of what each turn gives several of -/
def compLs (w : Walk) (f : T → Store → Res (List T)) : List T → Store → Res (List T)
  | [], m => if w.ok m then .ok [] m else .stuck
  | t :: r, m => if w.ok m then
      (match f t m with
      | .ok os m1 => (match compLs w f r m1 with
        | .ok ys m2 => .ok (os ++ ys) m2
        | _ => .stuck)
      | _ => .stuck)
    else .stuck
def putK (k v : T) : List T → List T → List T × List T
  | x :: ks, y :: vs => if T.eqv x k then (x :: ks, v :: vs) else ((x :: (putK k v ks vs).1), (y :: (putK k v ks vs).2))
  | _, _ => ([k], [v])
def compD (w : Walk) (f : T → Store → Res (Option (T × T))) : List T → (List T × List T) → Store → Res (List T × List T)
  | [], d, m => if w.ok m then .ok d m else .stuck
  | t :: r, d, m => if w.ok m then
      (match f t m with
      | .ok o m1 => (match o with
        | some (k, v) => if keyOk k then compD w f r (putK k v d.1 d.2) m1 else .stuck
        | none => compD w f r d m1)
      | _ => .stuck)
    else .stuck
def addS (x : T) (xs : List T) : List T := if xs.any (fun z => T.eqv z x) then xs else xs ++ [x]
def shortL (xs : List T) (m : Store) : Res T := if xs.length ≤ LINE then .ok (.lst xs) m else .stuck
def pairs : List T → List T → List T
  | x :: xs, y :: ys => .tup [x, y] :: pairs xs ys
  | _, _ => []

/-- what a method of a built-in that changes nothing gives -/
def joinT (sep : Nm) : List Nm → Nm
  | [] => []
  | [a] => a
  | a :: b :: r => a ++ (sep ++ joinT sep (b :: r))
def strsOf : List T → Option (List Nm)
  | [] => some []
  | .str i :: r => (strsOf r).map (i :: ·)
  | _ :: _ => none
def methT (m : Store) (f : Mt) (o : T) (xs : List T) : Option T :=
  match f, xs with
  | .index, [x] => (match vwL m o, dat m x with
    | some ys, some x => if (T.lst ys).ok then (findK x ys).map fun j => .int j else none
    | _, _ => none)
  | .join, [x] => (match o, vwL m x with
    | .str sep, some ys => (strsOf ys).bind fun l => if (l.map List.length).sum + l.length * sep.length ≤ LINE then some (.str (joinT sep l)) else none
    | _, _ => none)
  | .get, [k] => (match vwD m o with | some (ks, vs) => if keyOk k then some (((findK k ks).bind fun j => vs[j]?).getD .non) else none | none => none)
  | .get2, [k, d] => (match vwD m o with | some (ks, vs) => if keyOk k then some (((findK k ks).bind fun j => vs[j]?).getD d) else none | none => none)
  | _, _ => none
/-- what one that changes its object gives, and the object behind it -/
def mutT (m : Store) (f : Mt) (c : Cell) (xs : List T) : Option (T × Cell) :=
  match f, c, xs with
  | .append, .lst ys, [x] => if ys.length < LINE then some (.non, .lst (ys ++ [x])) else none
  | .extend, .lst ys, [x] => (match vwL m x with | some zs => if ys.length + zs.length ≤ LINE then some (.non, .lst (ys ++ zs)) else none | none => none)
  | .insert, .lst ys, [.int i, x] => if ys.length < LINE ∧ 0 ≤ i ∧ i < 4611686018427387904 then some (.non, .lst (ys.take i.toNat ++ x :: ys.drop i.toNat)) else none
  | .pop, .lst ys, [] => (match ys.getLast? with | some y => some (y, .lst ys.dropLast) | none => none)
  | .pop1, .lst ys, [.int i] => (ixT ys.length i).bind fun j => (ys[j]?).map fun y => (y, .lst (ys.eraseIdx j))
  | _, _, _ => none

def mutR (m : Store) (f : Mt) (x : T) (xs : List T) : Res T :=
  match x with
  | .obj n => (match m[n]? with
    | some c => (match mutT m f c xs with
      | some (y, c) => .ok y (m.set n c)
      | none => .stuck)
    | none => .stuck)
  | _ => .stuck
/-- the receiver is of the method's type -/
def mtOk (m : Store) (f : Mt) (o : T) : Bool :=
  match f with
  | .append | .extend | .insert | .pop | .pop1 | .index => (vwL m o).isSome
  | .get | .get2 | .setdefault | .dpop => (vwD m o).isSome
  | _ => (match o with | .str _ => true | _ => false)
mutual
def eval (C : Ctx) : E → Env → Store → Res T
  | .cst t, _, m => .ok t m
  | .glo _ t, _, m => .ok t m
  | .var i, env, m => .ofO (env.get i) m
  | .bin o a b, env, m => (eval C a env m).bind fun x m => (eval C b env m).bind fun y m => .ofO (bopT m o x y) m
  | .neg a, env, m => (eval C a env m).bind fun x m => (match x with | .int i => .ok (.int (-i)) m | _ => .stuck)
  | .cmp o a b, env, m => (eval C a env m).bind fun x m => (eval C b env m).bind fun y m => .ofO ((cmpT m o x y).map .bl) m
  | .chain o p a b c, env, m => (eval C a env m).bind fun x m => (eval C b env m).bind fun y m => (Res.ofO (cmpT m o x y) m).bind fun r m =>
      if r then (eval C c env m).bind fun z m => .ofO ((cmpT m p y z).map .bl) m else .ok (.bl false) m
  | .and a b, env, m => (eval C a env m).bind fun x m => (Res.ofO (truth m x) m).bind fun r m => if r then eval C b env m else .ok x m
  | .or a b, env, m => (eval C a env m).bind fun x m => (Res.ofO (truth m x) m).bind fun r m => if r then .ok x m else eval C b env m
  | .not a, env, m => (eval C a env m).bind fun x m => (Res.ofO (truth m x) m).bind fun r m => .ok (.bl (!r)) m
  | .ite c a b, env, m => (eval C c env m).bind fun x m => (Res.ofO (truth m x) m).bind fun r m => if r then eval C a env m else eval C b env m
  | .list es, env, m => (evals C es env m).bind shortL
  | .tup es, env, m => (evals C es env m).bind fun xs m => if xs.length ≤ LINE then .ok (.tup xs) m else .stuck
  | .dct ks vs, env, m => (evals C ks env m).bind fun xs m => (evals C vs env m).bind fun ys m => .stuck
  | .idx a k, env, m => (eval C a env m).bind fun x m => (eval C k env m).bind fun y m => .ofO (idxT m x y) m
  | .slice a lo hi, env, m => (eval C a env m).bind fun x m => (eval C lo env m).bind fun l m => (Res.ofO (toPart l) m).bind fun i m =>
      (eval C hi env m).bind fun h m => (Res.ofO (toPart h) m).bind fun j m => .ofO (sliceT m x i j) m
  | .comp own tg it c e, env, m => (evalI C it env m).bind fun w m =>
      (compL w (fun t m => (Res.ofO (tg.set m t (wipe env own)) m).bind fun env m =>
        (eval C c env m).bind fun x m => (Res.ofO (truth m x) m).bind fun r m => if r then (eval C e env m).bind fun y m => .ok (some y) m else .ok none m) w.xs m).bind shortL
  | .compX own tg it c e, env, m => (evalI C it env m).bind fun w m => if w.xs.length ≤ LINE then
      (compLX w (fun t m => (Res.ofO (tg.set m t (wipe env own)) m).bind fun env m =>
        (eval C c env m).bind fun x m => (Res.ofO (truth m x) m).bind fun r m => if r then (eval C e env m).bind fun y m => .ok (some y) m else .ok none m) w.xs m).bind shortL else .stuck
  | .comp2 own tg it c own2 tg2 it2 c2 e, env, m => (evalI C it env m).bind fun w m =>
      (compLs w (fun t m => (Res.ofO (tg.set m t (wipe env own)) m).bind fun env m =>
        (eval C c env m).bind fun x m => (Res.ofO (truth m x) m).bind fun r m => if r then (evalI C it2 env m).bind fun w2 m =>
            compL w2 (fun t2 m => (Res.ofO (tg2.set m t2 (wipe env own2)) m).bind fun env m =>
              (eval C c2 env m).bind fun x m => (Res.ofO (truth m x) m).bind fun r m => if r then (eval C e env m).bind fun y m => .ok (some y) m else .ok none m) w2.xs m
          else .ok [] m) w.xs m).bind shortL
  | .scomp own tg it c e, env, m => (evalI C it env m).bind fun w m =>
      (compL w (fun t m => (Res.ofO (tg.set m t (wipe env own)) m).bind fun env m =>
        (eval C c env m).bind fun x m => (Res.ofO (truth m x) m).bind fun r m => if r then (eval C e env m).bind fun y m => .ok (some y) m else .ok none m) w.xs m).bind
        fun xs m => if xs.all keyOk && decide (xs.length ≤ 1000) then .ok (.set (xs.foldl (fun a x => addS x a) [])) m else .stuck
  | .dcomp own tg it c k v, env, m => (evalI C it env m).bind fun w m =>
      (compD w (fun t m => (Res.ofO (tg.set m t (wipe env own)) m).bind fun env m => (eval C c env m).bind fun x m => (Res.ofO (truth m x) m).bind fun r m => if r then (eval C k env m).bind fun y m => (eval C v env m).bind fun z m => .ok (some (y, z)) m else .ok none m) w.xs ([], []) m).bind
        fun d m => if d.1.length ≤ 1000 then .ok (.dct d.1 d.2) m else .stuck
  | .callF f args ds, env, m => (evals C args env m).bind fun xs m => (C.call f (xs ++ ds) m).bind fun r m => .ok r.1 m
  | .callB f args, env, m => (evals C args env m).bind fun xs m => .ofO (biT m f xs) m
  | .listI it, env, m => (evalI C it env m).bind fun w m => shortL w.xs m
  | .isinst a ys, env, m => (eval C a env m).bind fun x m => .ofO ((isTys C.sub m x ys).map .bl) m
  | .meth f o args, env, m => (eval C o env m).bind fun x m => if mtOk m f x then (evals C args env m).bind fun xs m => .ofO (methT m f x xs) m else .stuck
  | .mut f o args, env, m => (eval C o env m).bind fun x m => if mtOk m f x then (evals C args env m).bind fun xs m => mutR m f x xs else .stuck
  | .callM f o args, env, m => (eval C o env m).bind fun x m =>
      (match x with
      | .obj n => (match m[n]? with
        | some (.ins c _) => (match C.meth c f with
          | some g => (evals C args env m).bind fun xs m => (C.call g (x :: xs) m).bind fun r m => .ok r.1 m
          | none => .stuck)
        | _ => .stuck)
      | _ => .stuck)
  | .new c args, env, m => (evals C args env m).bind fun xs m =>
      (match C.ini c with
      | some g => (C.call g (.obj m.length :: xs) (m ++ [.ins c []])).bind fun _ m' => .ok (.obj m.length) m'
      | none => .stuck)
  | .attr o f, env, m => (eval C o env m).bind fun x m =>
      (match x with
      | .obj n => (match m[n]? with
        | some (.ins _ fs) => .ofO (fs.lookup f) m
        | _ => .stuck)
      | .exc _ xs => .ofO xs.head? m
      | _ => .stuck)
def evals (C : Ctx) : EL → Env → Store → Res (List T)
  | .nil, _, m => .ok [] m
  | .cons e r, env, m => (eval C e env m).bind fun x m => (evals C r env m).bind fun xs m => .ok (x :: xs) m
def evalI (C : Ctx) : It → Env → Store → Res Walk
  | .of e, env, m => (eval C e env m).bind fun x m => .ofO (walkOf m x) m
  | .rng a, env, m => (eval C a env m).bind fun x m => (match x with | .int j => if rngOk j then .ok ⟨upFrom 0 j.toNat, none, false⟩ m else .stuck | _ => .stuck)
  | .rng2 a b, env, m => (eval C a env m).bind fun x m => (eval C b env m).bind fun y m =>
      (match x, y with | .int i, .int j => if rngOk i && rngOk j then .ok ⟨upFrom i (j - i).toNat, none, false⟩ m else .stuck | _, _ => .stuck)
  | .rng3 a b c, env, m => (eval C a env m).bind fun x m => (eval C b env m).bind fun y m => (eval C c env m).bind fun z m =>
      (match x, y, z with | .int i, .int j, .int k => if k = -1 ∧ rngOk i && rngOk j then .ok ⟨downFrom i (i - j).toNat, none, false⟩ m else .stuck | _, _, _ => .stuck)
  | .rev e, env, m => (eval C e env m).bind fun x m =>
      (match x with
      | .lst xs => .ok ⟨xs.reverse, none, false⟩ m
      | _ => .stuck)
  | .zip a b, env, m => (eval C a env m).bind fun x m => (eval C b env m).bind fun y m =>
      (match x, y with | .lst xs, .lst ys => .ok ⟨pairs xs ys, none, false⟩ m | _, _ => .stuck)
end
def test (C : Ctx) (e : E) (env : Env) (m : Store) : Res Bool := (eval C e env m).bind fun x m => .ofO (truth m x) m

/-! ### statements -/
mutual
inductive S where
  | skip
  | seq (a b : S)
  | set (i : Nat) (e : E)
  /-- name = e, the value a new list or dict that may change later: a cell -/
  | setBox (i : Nat) (e : E)
  | setMany (is : List Nat) (e : E)
  | setPar (i j : Nat) (a b : E)
  | setIdx (o k v : E)
  | setAttr (o : E) (f : Nat) (v : E)
  | setAttrBox (o : E) (f : Nat) (v : E)
  | expr (e : E)
  | ite (c : E) (a b : S)
  | for (tg : Tgt) (it : It) (body : S)
  | while (c : E) (body : S)
  | brk
  | cnt
  | ret (e : E)
  /-- .. the value new -/
  | retNew (e : E)
  /-- .. the list or dict cell of a name, which is let go -/
  | retMove (i : Nat)
  | raise (c : Nat) (keep : Bool) (args : EL)
  | tryx (body : S) (hs : HS)
  /-- try: body; except d as problem: return rf(problem) -/
  | tryRef (body : S) (d : Nat)
  /-- nothing is done: a cell of a name is a tree from now on -/
  | freeze (i : Nat)
inductive HS where
  | nil
  /-- except c [as name]: suite -/
  | cons (c : Nat) (i : Option Nat) (suite : S) (r : HS)
end

inductive Out where
  | nxt (env : Env) (m : Store)
  | brk (env : Env) (m : Store)
  | cnt (env : Env) (m : Store)
  | ret (t : T) (new : Bool) (m : Store)
  | exc (c : Nat) (xs : List T) (env : Env) (m : Store)
  | stuck
def Res.out {α : Type} (r : Res α) (env : Env) (f : α → Store → Out) : Out :=
  match r with
  | .ok a m => f a m
  | .exc c xs m => .exc c xs env m
  | .stuck => .stuck
@[simp] theorem Res.out_ok {α : Type} (a : α) (m : Store) (env : Env) (f : α → Store → Out) : (Res.ok a m).out env f = f a m := rfl
@[simp] theorem Res.out_exc {α : Type} (c : Nat) (xs : List T) (m : Store) (env : Env) (f : α → Store → Out) : (Res.exc c xs m : Res α).out env f = .exc c xs env m := rfl
@[simp] theorem Res.out_stuck {α : Type} (env : Env) (f : α → Store → Out) : (Res.stuck : Res α).out env f = .stuck := rfl
def cellOf : T → Option Cell
  | .lst xs => some (.lst xs)
  | .dct ks vs => some (.dct ks vs)
  | _ => none
def Cell.tree : Cell → Option T
  | .lst xs => some (.lst xs)
  | .dct ks vs => some (.dct ks vs)
  | _ => none
/-- expressions whose list or dict is new -/
def evalNew (C : Ctx) (e : E) (env : Env) (m : Store) : Res (T × Bool) :=
  match e with
  | .list _ => (eval C e env m).bind fun t m => .ok (t, true) m
  | .comp .. => (eval C e env m).bind fun t m => .ok (t, true) m
  | .comp2 .. => (eval C e env m).bind fun t m => .ok (t, true) m
  | .dct .. => (eval C e env m).bind fun t m => .ok (t, true) m
  | .dcomp .. => (eval C e env m).bind fun t m => .ok (t, true) m
  | .callB .list _ => (eval C e env m).bind fun t m => .ok (t, true) m
  | .callB .dict _ => (eval C e env m).bind fun t m => .ok (t, true) m
  | .callF f args ds => (evals C args env m).bind fun xs m => C.call f (xs ++ ds) m
  | _ => .stuck
def forLoop (w : Walk) (f : T → Env → Store → Out) : List T → Env → Store → Out
  | [], env, m => if w.ok m then .nxt env m else .stuck
  | t :: r, env, m => if w.ok m then
      (match f t env m with
      | .nxt env m => forLoop w f r env m
      | .cnt env m => forLoop w f r env m
      | .brk env m => .nxt env m
      | o => o)
    else .stuck
def whileLoop (c : Env → Store → Res Bool) (f : Env → Store → Out) : Nat → Env → Store → Out
  | 0, _, _ => .stuck
  | n + 1, env, m => (c env m).out env fun b m =>
      if b then
        (match f env m with
        | .nxt env m => whileLoop c f n env m
        | .cnt env m => whileLoop c f n env m
        | .brk env m => .nxt env m
        | o => o)
      else .nxt env m
def Out.unset (o : Out) (i : Option Nat) : Out :=
  match i with
  | none => o
  | some i => (match o with
    | .nxt env m => .nxt (env.set i none) m
    | .brk env m => .brk (env.set i none) m
    | .cnt env m => .cnt (env.set i none) m
    | o => o)
mutual
def exec (C : Ctx) : S → Env → Store → Out
  | .skip, env, m => .nxt env m
  | .seq a b, env, m => (match exec C a env m with | .nxt env m => exec C b env m | o => o)
  | .set i e, env, m => (eval C e env m).out env fun t m => .nxt (env.set i (some t)) m
  | .setBox i e, env, m => (evalNew C e env m).out env fun t m => if t.2 then (match cellOf t.1 with | some c => .nxt (env.set i (some (.obj m.length))) (m ++ [c]) | none => .stuck) else .stuck
  | .setMany is e, env, m => (eval C e env m).out env fun t m => (match (Tgt.many is).set m t env with | some env => .nxt env m | none => .stuck)
  | .setPar i j a b, env, m => (eval C a env m).out env fun x m => (eval C b env m).out env fun y m => .nxt ((env.set i (some x)).set j (some y)) m
  | .setIdx o k v, env, m => (eval C v env m).out env fun z m => (eval C o env m).out env fun x m => (eval C k env m).out env fun y m =>
      (match x with
      | .obj n => (match m[n]? with
        | some (.lst xs) => (match y with
          | .int i => (match ixT xs.length i with | some j => .nxt env (m.set n (.lst (xs.set j z))) | none => .stuck)
          | _ => .stuck)
        | some (.dct ks vs) => if keyOk y && decide (ks.length < LINE) then .nxt env (m.set n (.dct (putK y z ks vs).1 (putK y z ks vs).2)) else .stuck
        | _ => .stuck)
      | _ => .stuck)
  | .setAttr o f v, env, m => (eval C v env m).out env fun z m => (eval C o env m).out env fun x m =>
      (match x with
      | .obj n => (match m[n]? with
        | some (.ins c fs) => if fs.length < 900 then .nxt env (m.set n (.ins c ((f, z) :: fs.filter fun p => p.1 != f))) else .stuck
        | _ => .stuck)
      | _ => .stuck)
  | .setAttrBox o f v, env, m => (evalNew C v env m).out env fun t m => if t.2 then (match cellOf t.1 with
      | some cl => (eval C o env (m ++ [cl])).out env fun x m' =>
        (match x with
        | .obj n => (match m'[n]? with
          | some (.ins c fs) => if fs.length < 900 then .nxt env (m'.set n (.ins c ((f, .obj m.length) :: fs.filter fun p => p.1 != f))) else .stuck
          | _ => .stuck)
        | _ => .stuck)
      | none => .stuck) else .stuck
  | .expr e, env, m => (eval C e env m).out env fun _ m => .nxt env m
  | .ite c a b, env, m => (test C c env m).out env fun r m => if r then exec C a env m else exec C b env m
  | .for tg it body, env, m => (evalI C it env m).out env fun w m =>
      forLoop w (fun t env m => (Res.ofO (tg.set m t env) m).out env fun env m => exec C body env m) w.xs env m
  | .while c body, env, m => whileLoop (fun env m => test C c env m) (fun env m => exec C body env m) C.fuel env m
  | .brk, env, m => .brk env m
  | .cnt, env, m => .cnt env m
  | .ret e, env, m => (eval C e env m).out env fun t m => .ret t false m
  | .retNew e, env, m => (evalNew C e env m).out env fun t m => .ret t.1 t.2 m
  | .retMove i, env, m => (match env.get i with
      | some (.obj n) => (match (m[n]?).bind Cell.tree with | some t => .ret t true (m.set n .dead) | none => .stuck)
      | some t => .ret t false m
      | none => .stuck)
  | .raise c keep args, env, m => (evals C args env m).out env fun xs m => .exc c (if keep then xs else []) env m
  | .tryx body hs, env, m => (match exec C body env m with | .exc c xs env m => execH C hs c xs env m | o => o)
  | .tryRef body d, env, m => (match exec C body env m with
      | .exc c xs env m => (match C.sub c d with
        | some true => (match C.rf c with | some s => .ret (.str s) false m | none => .stuck)
        | some false => .exc c xs env m
        | none => .stuck)
      | o => o)
  | .freeze i, env, m => (match env.get i with
      | none => .stuck
      | some (.obj n) => (match (m[n]?).bind Cell.tree with | some t => .nxt (env.set i (some t)) (m.set n .dead) | none => .stuck)
      | some _ => .nxt env m)
def execH (C : Ctx) : HS → Nat → List T → Env → Store → Out
  | .nil, c, xs, env, m => .exc c xs env m
  | .cons d i suite r, c, xs, env, m => (match C.sub c d with
    | some true => (match i with
      | none => exec C suite env m
      | some k => (exec C suite (env.set k (some (.exc c xs))) m).unset i)
    | some false => execH C r c xs env m
    | none => .stuck)
end

/-! ### programs -/
structure Fn where
  np : Nat
  nl : Nat
  /-- it is run over an empty store, and asks for no cells -/
  gc : Bool
  body : S
structure Prog where
  fns : List Fn
  fuel : Nat
  sub : Nat → Nat → Option Bool
  meth : Nat → Nat → Option Nat
  ini : Nat → Option Nat
  rf : Nat → Option Nm
def finish (o : Out) : Res (T × Bool) :=
  match o with
  | .nxt _ m => .ok (.non, false) m
  | .ret t new m => .ok (t, new) m
  | .exc c xs _ m => .exc c xs m
  | _ => .stuck
/-- .. of a def that was run over an empty store -/
def alone (m : Store) (r : Res (T × Bool)) : Res (T × Bool) :=
  match r with
  | .ok a _ => if T.upTo 0 a.1 then .ok a m else .stuck
  | .exc c xs _ => if T.upTos 0 xs then .exc c xs m else .stuck
  | .stuck => .stuck
def start (f : Fn) (ts : List T) : Env := ts.map some ++ List.replicate (f.nl - f.np) none
def callN (P : Prog) : Nat → Nat → List T → Store → Res (T × Bool)
  | 0, _, _, _ => .stuck
  | k + 1, i, ts, m => (match P.fns[i]? with
    | none => .stuck
    | some f => if ts.length = f.np then
        (if f.gc then (if T.upTos 0 ts then alone m (finish (exec ⟨callN P k, P.fuel, P.sub, P.meth, P.ini, P.rf⟩ f.body (start f ts) [])) else .stuck)
        else finish (exec ⟨callN P k, P.fuel, P.sub, P.meth, P.ini, P.rf⟩ f.body (start f ts) m)) else .stuck)
end MP
end

section
set_option Elab.async false
set_option linter.all false
set_option maxRecDepth 100000
/-! MP2: what a tree stands for in the abstract heap; the state's tie. -/
namespace MP
open PySem PySem.Spec PyProof.Rows L2

def toStr (s : Nm) : Str := ⟨(s.map Char.toNat).toArray⟩
theorem toStr_len (s : Nm) : (toStr s).length = s.length := by simp [toStr, Str.length]
theorem toStr_append (a b : Nm) : toStr (a ++ b) = toStr a ++ toStr b := by
  show _ = Str.append _ _
  simp [toStr, Str.append]
theorem map_toNat_inj : ∀ {a b : Nm}, a.map Char.toNat = b.map Char.toNat → a = b
  | [], [], _ => rfl
  | [], _ :: _, h => by simp at h
  | _ :: _, [], h => by simp at h
  | x :: xs, y :: ys, h => by
    simp only [List.map_cons, List.cons.injEq] at h
    rw [map_toNat_inj h.2]
    have : x = y := Char.toNat_inj.mp h.1
    rw [this]
theorem toStr_inj {a b : Nm} (h : toStr a = toStr b) : a = b := by
  have := congrArg (fun s : Str => s.cps.toList) h
  simp [toStr] at this
  exact map_toNat_inj this

/-- the frozen part, the cells' places, what must stand -/
structure Wd where
  Z : Hp
  rho : List Addr
  Fr : Hp

def Sub (Z Z' : Hp) : Prop := ∀ a o, Z a = some o → Z' a = some o
theorem Sub.refl {Z : Hp} : Sub Z Z := fun _ _ h => h
theorem Sub.trans {Z Z' Z'' : Hp} (h : Sub Z Z') (h' : Sub Z' Z'') : Sub Z Z'' := fun a o e => h' a o (h a o e)
structure Wd.le (w w' : Wd) : Prop where
  z : Sub w.Z w'.Z
  r : w.rho <+: w'.rho
  f : w'.Fr = w.Fr
/-- later, whatever must stand -/
structure Wd.le0 (w w' : Wd) : Prop where
  z : Sub w.Z w'.Z
  r : w.rho <+: w'.rho
theorem Wd.le.to0 {w w' : Wd} (h : w.le w') : w.le0 w' := ⟨h.z, h.r⟩
theorem Wd.le0.trans {a b c : Wd} (h : a.le0 b) (h' : b.le0 c) : a.le0 c := ⟨h.z.trans h'.z, h.r.trans h'.r⟩
theorem Wd.le.refl {w : Wd} : w.le w := ⟨Sub.refl, List.prefix_refl _, rfl⟩
theorem Wd.le.trans {a b c : Wd} (h : a.le b) (h' : b.le c) : a.le c := ⟨h.z.trans h'.z, h.r.trans h'.r, h'.f.trans h.f⟩
theorem pre_get {α : Type} {l l' : List α} {n : Nat} {a : α} (h : l <+: l') (e : l[n]? = some a) : l'[n]? = some a := by
  obtain ⟨r, rfl⟩ := h
  have hn : n < l.length := by
    by_cases q : n < l.length
    · exact q
    · rw [List.getElem?_eq_none (by omega)] at e; cases e
  rw [List.getElem?_append_left hn]; exact e

/-- the written part; the exception that is handled: where it stands, its class, what it was made with -/
structure Kx where
  K : PySem.W.Frag
  hx : Option (Addr × Nat × List T)
abbrev _root_.L2.Cx.kx (X : L2.Cx) (hx : Option (Addr × Nat × List T)) : Kx := ⟨X.K, hx⟩
mutual
inductive Rep (K : Kx) (w : Wd) : T → V → Prop
  | non : Rep K w .non .non
  | bl (b : Bool) : Rep K w (.bl b) (.bl b)
  | int (i : Int) : Rep K w (.int i) (.int i)
  | str (s : Nm) : Rep K w (.str s) (.str (toStr s))
  | lst {a : Addr} {vs : List V} {ts : List T} : w.Z a = some (.lst vs) → Reps K w ts vs → Rep K w (.lst ts) (.ref a)
  | tup {a : Addr} {vs : List V} {ts : List T} : w.Z a = some (.tup vs) → Reps K w ts vs → Rep K w (.tup ts) (.ref a)
  | obj {n : Nat} {a : Addr} : w.rho[n]? = some a → Rep K w (.obj n) (.ref a)
  | exc {a : Addr} {c : Nat} {xs : List T} : K.hx = some (a, c, xs) → Rep K w (.exc c xs) (.ref a)
  | scr {a : Addr} {xs : List Int} : SqL K.K w.Z a (xs.map V.int) → Rep K w (.scr xs) (.ref a)
inductive Reps (K : Kx) (w : Wd) : List T → List V → Prop
  | nil : Reps K w [] []
  | cons {t : T} {ts : List T} {v : V} {vs : List V} : Rep K w t v → Reps K w ts vs → Reps K w (t :: ts) (v :: vs)
end
theorem SqL.sub {K : PySem.W.Frag} {Z Z' : Hp} {a : Addr} {xs : List V} (h : SqL K Z a xs) (s : Sub Z Z') : SqL K Z' a xs := by
  rcases h with (h | ⟨o, h⟩) | h
  · exact .inl (.inl (s _ _ h))
  · exact .inl (.inr ⟨o, s _ _ h⟩)
  · exact .inr h
section
variable {K : Kx} {w w' : Wd}
mutual
theorem Rep.mono0 (le : w.le0 w') : ∀ {t : T} {v : V}, Rep K w t v → Rep K w' t v
  | _, _, .non => .non
  | _, _, .bl b => .bl b
  | _, _, .int i => .int i
  | _, _, .str s => .str s
  | _, _, .lst h r => .lst (le.z _ _ h) (Reps.mono0 le r)
  | _, _, .tup h r => .tup (le.z _ _ h) (Reps.mono0 le r)
  | _, _, .obj h => .obj (pre_get le.r h)
  | _, _, .scr h => .scr (SqL.sub h le.z)
  | _, _, .exc h => .exc h
theorem Reps.mono0 (le : w.le0 w') : ∀ {ts : List T} {vs : List V}, Reps K w ts vs → Reps K w' ts vs
  | _, _, .nil => .nil
  | _, _, .cons h r => .cons (Rep.mono0 le h) (Reps.mono0 le r)
end
theorem Rep.mono (le : w.le w') {t : T} {v : V} (h : Rep K w t v) : Rep K w' t v := h.mono0 le.to0
theorem Reps.mono (le : w.le w') {ts : List T} {vs : List V} (h : Reps K w ts vs) : Reps K w' ts vs := h.mono0 le.to0
theorem Reps.length : ∀ {ts : List T} {vs : List V}, Reps K w ts vs → ts.length = vs.length
  | _, _, .nil => rfl
  | _, _, .cons _ r => by rw [List.length_cons, List.length_cons, Reps.length r]
theorem Reps.get : ∀ {ts : List T} {vs : List V} {i : Nat} {t : T}, Reps K w ts vs → ts[i]? = some t → ∃ v, vs[i]? = some v ∧ Rep K w t v
  | _, _, _, _, .nil, e => by simp at e
  | _, _, 0, _, .cons h _, e => by simp at e; subst e; exact ⟨_, rfl, h⟩
  | _, _, i + 1, t, .cons _ r, e => by simpa using Reps.get (i := i) (t := t) r (by simpa using e)
theorem Reps.append : ∀ {ts us : List T} {vs ws : List V}, Reps K w ts vs → Reps K w us ws → Reps K w (ts ++ us) (vs ++ ws)
  | _, _, _, _, .nil, r => r
  | _, _, _, _, .cons h q, r => .cons h (Reps.append q r)
theorem Reps.take : ∀ {ts : List T} {vs : List V} (n : Nat), Reps K w ts vs → Reps K w (ts.take n) (vs.take n)
  | _, _, 0, _ => .nil
  | _, _, _ + 1, .nil => .nil
  | _, _, n + 1, .cons h r => .cons h (Reps.take n r)
theorem Reps.drop : ∀ {ts : List T} {vs : List V} (n : Nat), Reps K w ts vs → Reps K w (ts.drop n) (vs.drop n)
  | _, _, 0, r => r
  | _, _, _ + 1, .nil => .nil
  | _, _, n + 1, .cons h r => Reps.drop n r
theorem Reps.set {t : T} {v : V} (h : Rep K w t v) : ∀ {ts : List T} {vs : List V} (n : Nat), Reps K w ts vs → Reps K w (ts.set n t) (vs.set n v)
  | _, _, _, .nil => .nil
  | _, _, 0, .cons _ r => .cons h r
  | _, _, n + 1, .cons q r => .cons q (Reps.set h n r)
end

/-- what stands at a cell's place -/
def CellR (K : Kx) (w : Wd) (H : Hp) (a : Addr) : Cell → Prop
  | .dead => True
  | .lst ts => ∃ vs, H a = some (.lst vs) ∧ Reps K w ts vs
  | .dct _ _ => False
  | .ins _ _ => False
theorem CellR.mono0 {K : Kx} {w w' : Wd} {H : Hp} {a : Addr} {c : Cell} (le : w.le0 w') (h : CellR K w H a c) : CellR K w' H a c := by
  cases c with
  | dead => trivial
  | lst ts => obtain ⟨vs, e, r⟩ := h; exact ⟨vs, e, r.mono0 le⟩
  | dct _ _ => exact h
  | ins _ _ => exact h
theorem CellR.mono {K : Kx} {w w' : Wd} {H : Hp} {a : Addr} {c : Cell} (le : w.le w') (h : CellR K w H a c) : CellR K w' H a c := h.mono0 le.to0
theorem CellR.at {K : Kx} {w : Wd} {H H' : Hp} {a : Addr} {c : Cell} (h : CellR K w H a c) (e : ∀ o, H a = some o → H' a = some o) : CellR K w H' a c := by
  cases c with
  | dead => trivial
  | lst ts => obtain ⟨vs, q, r⟩ := h; exact ⟨vs, e _ q, r⟩
  | dct _ _ => exact h
  | ins _ _ => exact h
/-- a cell that is not let go -/
def Live (m : Store) (n : Nat) : Prop := ∃ c, m[n]? = some c ∧ c ≠ .dead
/-- no live cell stands at d -/
def Off (w : Wd) (m : Store) (d : Addr) : Prop := ∀ n, w.rho[n]? = some d → ¬ Live m n
structure Sim (K : Kx) (w : Wd) (m : Store) (H : Hp) : Prop where
  z : Sub w.Z H
  len : w.rho.length = m.length
  inj : ∀ i j a, w.rho[i]? = some a → w.rho[j]? = some a → Live m i → Live m j → i = j
  there : ∀ n a, w.rho[n]? = some a → Live m n → w.Z a = none ∧ w.Fr a = none ∧ ∃ o, H a = some o
  cells : ∀ (n : Nat) a c, w.rho[n]? = some a → m[n]? = some c → CellR K w H a c
  fr : ∀ a o, w.Fr a = some o → H a = some o ∧ w.Z a = none
def EnvR (K : Kx) (w : Wd) (env : Env) (sg : L2.St) : Prop := ∀ i t, env.get i = some t → ∃ v, sg[i]? = some (some v) ∧ Rep K w t v
theorem EnvR.mono0 {K : Kx} {w w' : Wd} {env : Env} {sg : L2.St} (h : EnvR K w env sg) (le : w.le0 w') : EnvR K w' env sg := fun i t e =>
  let ⟨v, q, r⟩ := h i t e
  ⟨v, q, r.mono0 le⟩
theorem EnvR.mono {K : Kx} {w w' : Wd} {env : Env} {sg : L2.St} (h : EnvR K w env sg) (le : w.le w') : EnvR K w' env sg := h.mono0 le.to0
section
variable {K : Kx} {w : Wd} {m : Store} {H : Hp} {p : Addr} {o : HO}
/-- a new object of which nothing is said -/
theorem Sim.new (S : Sim K w m H) (hp : H p = none) : Sim K w m (upd H p o) := by
  have ne : ∀ a u, H a = some u → a ≠ p := fun a u e => ne_of_none e hp
  refine ⟨fun a u e => ?_, S.len, S.inj, fun n a ha hl => ?_, fun n a c e1 e2 => (S.cells n a c e1 e2).at fun u e => ?_, fun a u e => ?_⟩
  · rw [upd_ne (ne a u (S.z a u e))]; exact S.z a u e
  · obtain ⟨h1, h2, u, h3⟩ := S.there n a ha hl
    exact ⟨h1, h2, u, by rw [upd_ne (ne a u h3)]; exact h3⟩
  · rw [upd_ne (ne a u e)]; exact e
  · obtain ⟨h1, h2⟩ := S.fr a u e
    exact ⟨by rw [upd_ne (ne a u h1)]; exact h1, h2⟩
/-- an object that no cell and no frame holds is frozen -/
theorem Sim.freeze (S : Sim K w m H) (h : H p = some o) (hz : w.Z p = none) (hr : Off w m p) (hf : w.Fr p = none) :
    Sim K ⟨upd w.Z p o, w.rho, w.Fr⟩ m H ∧ w.le ⟨upd w.Z p o, w.rho, w.Fr⟩ := by
  have le : w.le ⟨upd w.Z p o, w.rho, w.Fr⟩ := ⟨fun a u e => by
    show upd w.Z p o a = some u
    rw [upd_ne (ne_of_none e hz)]; exact e, List.prefix_refl _, rfl⟩
  refine ⟨⟨fun a u e => ?_, S.len, S.inj, fun n a ha hl => ?_, fun n a c e1 e2 => (S.cells n a c e1 e2).mono le, fun a u e => ?_⟩, le⟩
  · by_cases q : a = p
    · subst q
      have : upd w.Z a o a = some u := e
      rw [upd_same] at this; rw [← this]; exact h
    · have : upd w.Z p o a = some u := e
      rw [upd_ne q] at this; exact S.z a u this
  · obtain ⟨h1, h2, h3⟩ := S.there n a ha hl
    refine ⟨?_, h2, h3⟩
    show upd w.Z p o a = none
    rw [upd_ne (fun z => hr n (by rw [← z]; exact ha) hl)]; exact h1
  · obtain ⟨h1, h2⟩ := S.fr a u e
    refine ⟨h1, ?_⟩
    show upd w.Z p o a = none
    rw [upd_ne (fun z => by rw [z, hf] at e; cases e)]; exact h2
theorem Sim.fresh (S : Sim K w m H) (hp : H p = none) : w.Z p = none ∧ Off w m p ∧ w.Fr p = none := by
  refine ⟨?_, fun n q hl => ?_, ?_⟩
  · cases e : w.Z p with
    | none => rfl
    | some u => rw [S.z p u e] at hp; cases hp
  · obtain ⟨_, _, u, e⟩ := S.there n p q hl
    rw [e] at hp; cases hp
  · cases e : w.Fr p with
    | none => rfl
    | some u => rw [(S.fr p u e).1] at hp; cases hp
/-- a new object, frozen at once -/
theorem Sim.newZ (S : Sim K w m H) (hp : H p = none) (o : HO) : Sim K ⟨upd w.Z p o, w.rho, w.Fr⟩ m (upd H p o) ∧ w.le ⟨upd w.Z p o, w.rho, w.Fr⟩ := by
  obtain ⟨h1, h2, h3⟩ := S.fresh hp
  exact (S.new (o := o) hp).freeze upd_same h1 h2 h3
end

/-! ### outcomes -/
def Res.to {α : Type} (r : Res α) (p : α → Store → Prop) (e : Nat → List T → Store → Prop) : Prop :=
  match r with
  | .ok a m => p a m
  | .exc c xs m => e c xs m
  | .stuck => False
theorem Res.to_bind {α β : Type} {r : Res α} {f : α → Store → Res β} {p : β → Store → Prop} {e : Nat → List T → Store → Prop} (h : (r.bind f).to p e) : r.to (fun a m => (f a m).to p e) e := by
  cases r <;> exact h
theorem Res.to_mono {α : Type} {r : Res α} {p p' : α → Store → Prop} {e e' : Nat → List T → Store → Prop} (h : r.to p e) (hp : ∀ a m, p a m → p' a m) (he : ∀ c xs m, e c xs m → e' c xs m) : r.to p' e' := by
  cases r with
  | ok a m => exact hp a m h
  | exc c xs m => exact he c xs m h
  | stuck => exact h
theorem Res.to_ofO {α : Type} {o : Option α} {m : Store} {p : α → Store → Prop} {e : Nat → List T → Store → Prop} (h : (Res.ofO o m).to p e) : ∃ a, o = some a ∧ p a m := by
  cases o with
  | none => exact h.elim
  | some a => exact ⟨a, rfl, h⟩
end MP
end

section
set_option Elab.async false
set_option linter.all false
set_option maxRecDepth 100000
/-! MP3: the readings; expressions. -/
namespace MP
open PySem PySem.Spec PyProof.Rows L2

structure Sd where
  C : Ctx
  /-- where the classes stand -/
  cA : Nat → Addr

/-- how an exception of the evaluator lies in the heap -/
def ExcR (D : Sd) (c : Nat) (xs : List T) (cls : Value) (d : Option Addr) : Prop := cls = .ref (D.cA c) ∧ xs = [] ∧ d = none
section
variable (K : Kx) (D : Sd) (W : WX)
/-- later, with a store m -/
def aft (w : Wd) (m : Store) (k : Wd → Hp → Prop) : Prop := ∀ w' H', w.le w' → Sim K w' m H' → k w' H'
theorem aft.mono {K : Kx} {w w' : Wd} {m : Store} {k : Wd → Hp → Prop} (h : aft K w m k) (le : w.le w') : aft K w' m k := fun w2 H2 l S => h w2 H2 (le.trans l) S
def okV (w : Wd) (Q : VK) : T → Store → Prop := fun t m => aft K w m fun w' H' => ∀ v, Rep K w' t v → Q v H'
def okB (w : Wd) (Q : Bool → Hp → Prop) : Bool → Store → Prop := fun b m => aft K w m fun w' H' => Q b H'
def okL (w : Wd) (Q : List V → Hp → Prop) : List T → Store → Prop := fun ts m => aft K w m fun w' H' => ∀ vs, Reps K w' ts vs → Q vs H'
def exV (w : Wd) (sg : L2.St) : Nat → List T → Store → Prop := fun c xs m => aft K w m fun w' H' => ∀ cls d, ExcR D c xs cls d → W cls d sg H'
def tE (e : E) : TE := fun sg H Q => ∃ w m env, Sim K w m H ∧ EnvR K w env sg ∧ (eval D.C e env m).to (okV K w Q) (exV K D W w sg)
def tT (e : E) : TT := fun sg H Q => ∃ w m env, Sim K w m H ∧ EnvR K w env sg ∧ (test D.C e env m).to (okB K w Q) (exV K D W w sg)
def tA (es : EL) : TA := fun sg H Q => ∃ w m env, Sim K w m H ∧ EnvR K w env sg ∧ (evals D.C es env m).to (okL K w Q) (exV K D W w sg)
end
section
variable {K : Kx} {D : Sd} {W : WX} {w w' : Wd} {m : Store} {H : Hp} {sg : L2.St} {env : Env} {Q : VK}
theorem okV.mono {t : T} {w w' : Wd} (h : okV K w Q t m) (le : w.le w') : okV K w' Q t m := aft.mono h le
theorem exV.mono {c : Nat} {xs : List T} (h : exV K D W w sg c xs m) (le : w.le w') : exV K D W w' sg c xs m := aft.mono h le
theorem to_later {r : Res T} (h : r.to (okV K w Q) (exV K D W w sg)) (le : w.le w') : r.to (okV K w' Q) (exV K D W w' sg) :=
  Res.to_mono h (fun _ _ q => aft.mono q le) fun _ _ _ q => aft.mono q le
theorem to_laterB {Q : Bool → Hp → Prop} {r : Res Bool} (h : r.to (okB K w Q) (exV K D W w sg)) (le : w.le w') : r.to (okB K w' Q) (exV K D W w' sg) :=
  Res.to_mono h (fun _ _ q => aft.mono q le) fun _ _ _ q => aft.mono q le
theorem to_laterL {Q : List V → Hp → Prop} {r : Res (List T)} (h : r.to (okL K w Q) (exV K D W w sg)) (le : w.le w') : r.to (okL K w' Q) (exV K D W w' sg) :=
  Res.to_mono h (fun _ _ q => aft.mono q le) fun _ _ _ q => aft.mono q le
theorem okV.use {t : T} {v : V} (h : okV K w Q t m) (S : Sim K w m H) (r : Rep K w t v) : Q v H := h w H .refl S v r
/-- one part, then what is wanted of it -/
theorem tE_one {α : Type} {p : α → Store → Prop} {e : E} {f : T → Store → Res α} (S : Sim K w m H) (R : EnvR K w env sg) (h : ((eval D.C e env m).bind f).to p (exV K D W w sg)) {P : V → Hp → Prop}
    (k : ∀ t m' w' H' v, w.le w' → Sim K w' m' H' → Rep K w' t v → (f t m').to p (exV K D W w sg) → P v H') : tE K D W e sg H P :=
  ⟨w, m, env, S, R, Res.to_mono (Res.to_bind h) (fun t m' q w' H' le S' v r => k t m' w' H' v le S' r q) fun _ _ _ q => q⟩
theorem tA_one {α : Type} {p : α → Store → Prop} {e : EL} {f : List T → Store → Res α} (S : Sim K w m H) (R : EnvR K w env sg) (h : ((evals D.C e env m).bind f).to p (exV K D W w sg)) {P : List V → Hp → Prop}
    (k : ∀ t m' w' H' v, w.le w' → Sim K w' m' H' → Reps K w' t v → (f t m').to p (exV K D W w sg) → P v H') : tA K D W e sg H P :=
  ⟨w, m, env, S, R, Res.to_mono (Res.to_bind h) (fun t m' q w' H' le S' v r => k t m' w' H' v le S' r q) fun _ _ _ q => q⟩
end

/-! ### values -/
theorem LINE_eq : (sizeLine : Nat) = LINE := by rw [sizeLine_eq]; rfl
/-- a two-place operation of the evaluator, by values -/
def r2T (K : Kx) (f : Store → T → T → Option T) : R2 := fun x y H Q => ∃ w m a b r, Sim K w m H ∧ Rep K w a x ∧ Rep K w b y ∧ f m a b = some r ∧ okV K w Q r m
def opOf : Bop → Operator
  | .add => .Add | .sub => .Sub | .mul => .Mult | .fdiv => .FloorDiv | .mod => .Mod | .pow => .Pow
section
variable {X : Cx} {hx : Option (Addr × Nat × List T)} {K : Kx} {w : Wd} {m : Store} {H : Hp}
theorem vwL_rep (S : Sim K w m H) {t : T} {v : V} {xs : List T} (r : Rep K w t v) (e : vwL m t = some xs) : ∃ a vs, v = .ref a ∧ H a = some (.lst vs) ∧ Reps K w xs vs := by
  cases r with
  | lst h r => simp only [vwL, Option.some.injEq] at e; subst e; exact ⟨_, _, rfl, S.z _ _ h, r⟩
  | @obj n a h =>
    simp only [vwL] at e
    split at e
    · rename_i ys hm
      simp only [Option.some.injEq] at e; subst e
      obtain ⟨vs, q, r⟩ := S.cells n a _ h hm
      exact ⟨a, vs, rfl, q, r⟩
    · cases e
  | _ => simp [vwL] at e
theorem small_iff {i : Int} (h : small i = true) : -(2 ^ 64) < i ∧ i < 2 ^ 64 := by
  unfold small at h
  simp only [Bool.and_eq_true, decide_eq_true_eq] at h
  constructor
  · have := h.1; omega
  · have := h.2; omega
theorem op_bin (o : Bop) : OpR X (binaryOp (opOf o)) (r2T (X.kx hx) fun m => bopT m o) := by
  intro pins s sg H x y v u Q I rx ry ⟨w, m, a, b, r, S, ra, rb, e, q⟩
  -- two lists
  have lists : o = .add → ((match vwL m a, vwL m b with | some a, some b => if a.length + b.length ≤ LINE then some (T.lst (a ++ b)) else none | _, _ => none) = some r) → wpAny (model X.prog X.w) X.A (binaryOp .Add v u) (EP X pins sg Q) X.xe s := by
    intro _ e
    split at e
    · rename_i xs ys h1 h2
      split at e
      · rename_i hl
        simp only [Option.some.injEq] at e; subst e
        obtain ⟨p, vs, rfl, hp, rv⟩ := vwL_rep S ra h1
        obtain ⟨p2, ws, rfl, hp2, rw'⟩ := vwL_rep S rb h2
        refine op_cat pins s sg H _ _ v u Q I rx ry ⟨p, p2, vs, ws, rfl, rfl, hp, hp2, ?_, fun z hz => ?_⟩
        · rw [LINE_eq, ← rv.length, ← rw'.length]; exact hl
        · obtain ⟨S', le⟩ := S.newZ hz (.lst (vs ++ ws))
          exact q _ _ le S' _ (.lst upd_same ((rv.append rw').mono le))
      · cases e
    · cases e
  cases o with
  | add =>
    cases ra with
    | int i =>
      cases rb with
      | int j =>
        simp only [bopT, Option.some.injEq] at e; subst e
        exact op_add pins s sg H _ _ v u Q I rx ry ⟨i, j, rfl, rfl, q.use S (.int _)⟩
      | _ => simp [bopT, vwL] at e
    | str x =>
      cases rb with
      | str y =>
        simp only [bopT] at e
        split at e
        · rename_i hl
          simp only [Option.some.injEq] at e; subst e
          refine op_add_str pins s sg H _ _ v u Q I rx ry ⟨_, _, rfl, rfl, ?_, ?_⟩
          · rw [toStr_len, toStr_len, LINE_eq]; exact hl
          · rw [← toStr_append]; exact q.use S (.str _)
        · cases e
      | _ => simp [bopT, vwL] at e
    | @tup p vs xs hp rp =>
      cases rb with
      | @tup p2 ws ys hp2 rp2 =>
        simp only [bopT] at e
        split at e
        · cases e
        · rename_i hne
          split at e
          · rename_i hl
            simp only [Option.some.injEq] at e; subst e
            refine op_catT pins s sg H _ _ v u Q I rx ry ⟨p, p2, vs, ws, rfl, rfl, .of (S.z _ _ hp), .of (S.z _ _ hp2), ?_, ?_, ?_, ?_⟩
            · intro z; apply hne; have := rp.length; rw [z] at this; exact List.eq_nil_of_length_eq_zero this
            · rw [LINE_eq, ← rp.length, ← rp2.length]; exact hl
            · intro z
              have : ys = [] := List.eq_nil_of_length_eq_zero (by rw [rp2.length, z]; rfl)
              subst this
              refine q.use S ?_
              rw [List.append_nil]
              exact .tup hp rp
            · intro _ z hz
              obtain ⟨S', le⟩ := S.newZ hz (.tup (vs ++ ws))
              exact q _ _ le S' _ (.tup upd_same ((rp.append rp2).mono le))
          · cases e
      | _ => simp [bopT, vwL] at e
    | lst h1 h2 => exact lists rfl (by rw [← e]; cases rb <;> rfl)
    | obj h1 => exact lists rfl (by rw [← e]; cases rb <;> rfl)
    | _ => cases rb <;> simp [bopT, vwL] at e
  | sub =>
    cases ra <;> cases rb <;> simp only [bopT, Option.some.injEq, reduceCtorEq] at e
    subst e
    exact op_sub pins s sg H _ _ v u Q I rx ry ⟨_, _, rfl, rfl, q.use S (.int _)⟩
  | mul =>
    cases ra <;> cases rb <;> simp only [bopT, reduceCtorEq] at e
    rename_i i j
    split at e
    · rename_i h
      simp only [Option.some.injEq] at e; subst e
      refine op_mul pins s sg H _ _ v u Q I rx ry ⟨i, j, rfl, rfl, ?_, q.use S (.int _)⟩
      rw [Bool.or_eq_true] at h
      rcases h with h | h
      · exact .inl (small_iff h)
      · exact .inr (small_iff h)
    · cases e
  | fdiv =>
    cases ra <;> cases rb <;> simp only [bopT, reduceCtorEq] at e
    rename_i i j
    split at e
    · rename_i h
      simp only [Option.some.injEq] at e; subst e
      exact op_fdivN pins s sg H _ _ v u Q I rx ry ⟨i, j, rfl, rfl, h, q.use S (.int _)⟩
    · cases e
  | mod =>
    cases ra <;> cases rb <;> simp only [bopT, reduceCtorEq] at e
    rename_i i j
    split at e
    · rename_i h
      simp only [Option.some.injEq] at e; subst e
      exact op_modN pins s sg H _ _ v u Q I rx ry ⟨i, j, rfl, rfl, h, q.use S (.int _)⟩
    · cases e
  | pow =>
    cases ra <;> cases rb <;> simp only [bopT, reduceCtorEq] at e
    rename_i i j
    split at e
    · rename_i h
      simp only [Option.some.injEq] at e; subst e
      exact op_pow pins s sg H _ _ v u Q I rx ry ⟨i, j, rfl, rfl, ⟨h.1, h.2.1, h.2.2⟩, q.use S (.int _)⟩
    · cases e
end
end MP
end

section
set_option Elab.async false
set_option linter.all false
set_option maxRecDepth 100000
/-! MP4: comparisons, truth, items, slices, by values. -/
namespace MP
open PySem PySem.Spec PyProof.Rows L2

/-! ### data -/
mutual
def toD : T → PyData
  | .non => .none
  | .bl b => .bool b
  | .int i => .int i
  | .str s => .str (toStr s)
  | .lst xs => .list (toDs xs)
  | .tup xs => .tuple (toDs xs)
  | .dct _ _ => .none
  | .set _ => .none
  | .obj _ => .none
  | .exc _ _ => .none
  | .scr _ => .none
def toDs : List T → List PyData
  | [] => []
  | x :: xs => toD x :: toDs xs
end
theorem toDs_map : ∀ xs : List T, toDs xs = xs.map toD
  | [] => rfl
  | x :: xs => by rw [toDs, toDs_map xs]; rfl
theorem toStr_beq (a b : Nm) : (toStr a == toStr b) = (a == b) := by
  rw [Bool.eq_iff_iff]
  simp only [beq_iff_eq]
  exact ⟨toStr_inj, fun h => by rw [h]⟩
mutual
theorem eqv_toD : ∀ (n : Nat) (a b : T), T.okN n a = true → (k : Nat) → T.okN k b = true → PyData.eqv (toD a) (toD b) = T.eqv a b
  | n, .non, b, _, k, h => by cases b <;> simp [toD, PyData.eqv, T.eqv, T.okN] at h ⊢
  | n, .bl x, b, _, k, h => by cases b <;> simp [toD, PyData.eqv, T.eqv, T.okN] at h ⊢
  | n, .int x, b, _, k, h => by cases b <;> simp [toD, PyData.eqv, T.eqv, T.okN] at h ⊢
  | n, .str x, b, _, k, h => by cases b <;> simp [toD, PyData.eqv, T.eqv, T.okN, toStr_beq] at h ⊢
  | 0, .lst xs, b, h, _, _ => by simp [T.okN] at h
  | n + 1, .lst xs, b, h, k, hb => by
    cases b with
    | lst ys =>
      cases k with
      | zero => simp [T.okN] at hb
      | succ k => simp only [toD, PyData.eqv, T.eqv]; exact eqvs_toDs n xs ys (by simpa [T.okN] using h) k (by simpa [T.okN] using hb)
    | _ => simp [toD, PyData.eqv, T.eqv, T.okN] at hb ⊢
  | 0, .tup xs, b, h, _, _ => by simp [T.okN] at h
  | n + 1, .tup xs, b, h, k, hb => by
    cases b with
    | tup ys =>
      cases k with
      | zero => simp [T.okN] at hb
      | succ k => simp only [toD, PyData.eqv, T.eqv]; exact eqvs_toDs n xs ys (by simpa [T.okN] using h) k (by simpa [T.okN] using hb)
    | _ => simp [toD, PyData.eqv, T.eqv, T.okN] at hb ⊢
  | n, .dct _ _, b, h, _, _ => by simp [T.okN] at h
  | n, .set _, b, h, _, _ => by simp [T.okN] at h
  | n, .obj _, b, h, _, _ => by simp [T.okN] at h
  | n, .exc _ _, b, h, _, _ => by simp [T.okN] at h
  | n, .scr _, b, h, _, _ => by simp [T.okN] at h
theorem eqvs_toDs : ∀ (n : Nat) (a b : List T), T.okNs n a = true → (k : Nat) → T.okNs k b = true → PyData.eqvAll (toDs a) (toDs b) = T.eqvs a b
  | n, [], [], _, _, _ => by simp [toDs, PyData.eqvAll, T.eqvs]
  | n, [], _ :: _, _, _, _ => by simp [toDs, PyData.eqvAll, T.eqvs]
  | n, _ :: _, [], _, _, _ => by simp [toDs, PyData.eqvAll, T.eqvs]
  | n, x :: xs, y :: ys, h, k, hb => by
    simp only [T.okNs, Bool.and_eq_true] at h hb
    simp only [toDs, PyData.eqvAll, T.eqvs]
    rw [eqv_toD n x y h.1 k hb.1, eqvs_toDs n xs ys h.2 k hb.2]
end
theorem strOk_toStr (s : Nm) : PyData.strOk (toStr s) = true := by
  unfold PyData.strOk toStr
  simp only [Array.all_eq_true_iff_forall_mem, List.mem_toArray, List.mem_map, decide_eq_true_eq]
  rintro _ ⟨c, _, rfl⟩
  have := c.valid
  simp only [UInt32.isValidChar, Nat.isValidChar] at this
  show c.val.toNat < _
  omega
mutual
theorem lay_toD : ∀ (n : Nat) (a : T), T.okN n a = true → (toD a).canLay0 = true ∧ (toD a).depth ≤ n
  | n, .non, _ => by simp [toD, PyData.canLay0, PyData.depth]
  | n, .bl x, _ => by simp [toD, PyData.canLay0, PyData.depth]
  | n, .int x, _ => by simp [toD, PyData.canLay0, PyData.depth]
  | n, .str x, _ => by simp [toD, PyData.canLay0, PyData.depth, strOk_toStr]
  | 0, .lst xs, h => by simp [T.okN] at h
  | n + 1, .lst xs, h => by
    obtain ⟨h1, h2⟩ := lays_toDs n xs (by simpa [T.okN] using h)
    simp only [toD, PyData.canLay0, PyData.depth]
    exact ⟨h1, by omega⟩
  | 0, .tup xs, h => by simp [T.okN] at h
  | n + 1, .tup xs, h => by
    obtain ⟨h1, h2⟩ := lays_toDs n xs (by simpa [T.okN] using h)
    simp only [toD, PyData.canLay0, PyData.depth]
    exact ⟨h1, by omega⟩
  | n, .dct _ _, h => by simp [T.okN] at h
  | n, .set _, h => by simp [T.okN] at h
  | n, .obj _, h => by simp [T.okN] at h
  | n, .exc _ _, h => by simp [T.okN] at h
  | n, .scr _, h => by simp [T.okN] at h
theorem lays_toDs : ∀ (n : Nat) (a : List T), T.okNs n a = true → PyData.canLayAll0 (toDs a) = true ∧ PyData.depthAll (toDs a) ≤ n
  | n, [], _ => by simp [toDs, PyData.canLayAll0, PyData.depthAll]
  | n, x :: xs, h => by
    simp only [T.okNs, Bool.and_eq_true] at h
    obtain ⟨h1, h2⟩ := lay_toD n x h.1
    obtain ⟨h3, h4⟩ := lays_toDs n xs h.2
    simp only [toDs, PyData.canLayAll0, PyData.depthAll, h1, h3, Bool.and_self, true_and]
    exact Nat.max_le.mpr ⟨h2, h4⟩
end
theorem shaped_toD {a : T} (h : a.ok = true) : SeqAt.shaped (toD a) = true := by
  obtain ⟨h1, h2⟩ := lay_toD 60 a h
  unfold SeqAt.shaped
  rw [h1, Bool.true_and]
  exact decide_eq_true (by omega)
section
variable {X : Cx} {hx : Option (Addr × Nat × List T)} {K : Kx} {w : Wd} {m : Store} {H : Hp}
mutual
theorem dp_rep (z : Sub w.Z H) : ∀ (n : Nat) (t : T) (v : V), T.okN n t = true → Rep K w t v → Dp K.K H v (toD t)
  | n, .non, v, _, r => by cases r; exact .non
  | n, .bl b, v, _, r => by cases r; exact .bl b
  | n, .int i, v, _, r => by cases r; exact .int i
  | n, .str s, v, _, r => by cases r; exact .str _
  | 0, .lst xs, v, h, r => by simp [T.okN] at h
  | n + 1, .lst xs, v, h, r => by cases r with | lst h1 h2 => exact .lst (.of (z _ _ h1)) (dps_rep z n xs _ (by simpa [T.okN] using h) h2)
  | 0, .tup xs, v, h, r => by simp [T.okN] at h
  | n + 1, .tup xs, v, h, r => by cases r with | tup h1 h2 => exact .tup (.of (z _ _ h1)) (dps_rep z n xs _ (by simpa [T.okN] using h) h2)
  | n, .dct _ _, _, h, _ => by simp [T.okN] at h
  | n, .set _, _, h, _ => by simp [T.okN] at h
  | n, .obj _, _, h, _ => by simp [T.okN] at h
  | n, .exc _ _, _, h, _ => by simp [T.okN] at h
  | n, .scr _, _, h, _ => by simp [T.okN] at h
theorem dps_rep (z : Sub w.Z H) : ∀ (n : Nat) (ts : List T) (vs : List V), T.okNs n ts = true → Reps K w ts vs → DpAll K.K H vs (toDs ts)
  | n, [], vs, _, r => by cases r; exact .nil
  | n, x :: xs, vs, h, r => by
    simp only [T.okNs, Bool.and_eq_true] at h
    cases r with | cons h1 h2 => exact .cons (dp_rep z n x _ h.1 h1) (dps_rep z n xs _ h.2 h2)
end
/-- a value that is data, or a list cell of data -/
theorem dat_rep (S : Sim K w m H) {t a : T} {v : V} (r : Rep K w t v) (e : dat m t = some a) : a.ok = true ∧ Dp K.K H v (toD a) := by
  unfold dat at e
  split at e
  · rename_i h
    simp only [Option.some.injEq] at e; subst e
    refine ⟨h, ?_⟩
    cases r with
    | @obj n p hn =>
      simp only [res] at h ⊢
      split at h
      · rename_i xs hm
        obtain ⟨vs, q, r⟩ := S.cells n p _ hn hm
        exact .lst (.of q) (dps_rep S.z 59 xs vs (by simpa [T.ok, T.okN] using h) r)
      · simp [T.ok, T.okN] at h
    | scr _ => simp [res, T.ok, T.okN] at h
    | exc _ => simp [res, T.ok, T.okN] at h
    | lst h1 h2 => exact dp_rep S.z 60 _ _ h (.lst h1 h2)
    | tup h1 h2 => exact dp_rep S.z 60 _ _ h (.tup h1 h2)
    | non => exact .non
    | bl b => exact .bl b
    | int i => exact .int i
    | str x => exact .str _
  · cases e
theorem mem_eqv : ∀ (ys : List T) (x : T), T.okNs 59 ys = true → x.ok = true → ((toDs ys).any fun z => PyData.eqv z (toD x)) = ys.any fun z => T.eqv z x
  | [], _, _, _ => rfl
  | y :: ys, x, h, hx => by
    simp only [T.okNs, Bool.and_eq_true] at h
    simp only [toDs, List.any_cons]
    rw [eqv_toD 59 y x h.1 60 hx, mem_eqv ys x h.2 hx]
theorem flat_rep {t : T} {v : V} (r : Rep K w t v) (h : flatT t = true) : flatV v = true := by
  cases r <;> simp [flatT, flatV] at h ⊢
theorem flats_rep : ∀ {ts : List T} {vs : List V}, Reps K w ts vs → ts.all flatT = true → vs.all flatV = true
  | _, _, .nil, _ => rfl
  | _, _, .cons h r, e => by
    simp only [List.all_cons, Bool.and_eq_true] at e ⊢
    exact ⟨flat_rep h e.1, flats_rep r e.2⟩
theorem eqV_rep {a b : T} {v u : V} (ra : Rep K w a v) (rb : Rep K w b u) (ha : flatT a = true) (hb : flatT b = true) : eqV v u = T.eqv a b := by
  cases ra <;> simp only [flatT, Bool.false_eq_true] at ha <;> cases rb <;> simp only [flatT, Bool.false_eq_true] at hb <;> first
    | rfl
    | exact toStr_beq _ _
theorem inV_rep {a : T} {v : V} (ra : Rep K w a v) (ha : flatT a = true) : ∀ {ts : List T} {vs : List V}, Reps K w ts vs → ts.all flatT = true → inV v vs = ts.any fun z => T.eqv z a
  | _, _, .nil, _ => rfl
  | _, _, .cons h r, e => by
    simp only [List.all_cons, Bool.and_eq_true] at e
    show ((eqV _ _) || inV v _) = _
    rw [List.any_cons, eqV_rep h ra e.1 ha, inV_rep ra ha r e.2]
/-- the order of letters is the order of code points -/
theorem cmpS_lt : ∀ a b : Nm, ((toStr a).cps.toList < (toStr b).cps.toList) ↔ T.cmpS a b = .lt
  | [], [] => by simp [toStr, T.cmpS]
  | [], y :: ys => by simp [toStr, T.cmpS]
  | x :: xs, [] => by simp [toStr, T.cmpS]
  | x :: xs, y :: ys => by
    have ih := cmpS_lt xs ys
    simp only [toStr] at ih ⊢
    simp only [List.map_cons, T.cmpS]
    rw [List.cons_lt_cons_iff]
    by_cases e : x = y
    · subst e
      simp only [if_pos rfl, Nat.lt_irrefl, true_and, false_or]
      exact ih
    · have ne : x.toNat ≠ y.toNat := fun z => e (Char.toNat_inj.mp z)
      rw [if_neg e]
      by_cases l : x.toNat < y.toNat
      · simp [l]
      · rw [if_neg l]
        simp only [reduceCtorEq, iff_false, not_or, not_and]
        exact ⟨l, fun z => absurd z ne⟩
theorem compare_int_lt {i j : Int} : (compare i j == Ordering.lt) = decide (i < j) := by
  rw [Bool.eq_iff_iff]; simp only [beq_iff_eq, decide_eq_true_eq, compare, compareOfLessAndEq]; split
  · simp; omega
  · split
    · simp; omega
    · simp; omega
theorem ord_lt {i j : Int} : ordT .lt (compare i j) = decide (i < j) := compare_int_lt
theorem ord_gt {i j : Int} : ordT .gt (compare i j) = decide (j < i) := by
  unfold ordT; rw [Bool.eq_iff_iff]; simp only [beq_iff_eq, decide_eq_true_eq, compare, compareOfLessAndEq]; split
  · simp; omega
  · split
    · simp; omega
    · simp; omega
theorem ord_le {i j : Int} : ordT .le (compare i j) = decide (i ≤ j) := by
  unfold ordT; rw [Bool.eq_iff_iff]; simp only [bne_iff_ne, decide_eq_true_eq, compare, compareOfLessAndEq]; split
  · simp; omega
  · split
    · simp; omega
    · simp; omega
theorem ord_ge {i j : Int} : ordT .ge (compare i j) = decide (j ≤ i) := by
  unfold ordT; rw [Bool.eq_iff_iff]; simp only [bne_iff_ne, decide_eq_true_eq, compare, compareOfLessAndEq]; split
  · simp; omega
  · split
    · simp; omega
    · simp; omega
theorem cmpS_gt : ∀ a b : Nm, T.cmpS a b = .gt ↔ T.cmpS b a = .lt
  | [], [] => by simp [T.cmpS]
  | [], y :: ys => by simp [T.cmpS]
  | x :: xs, [] => by simp [T.cmpS]
  | x :: xs, y :: ys => by
    simp only [T.cmpS]
    by_cases e : x = y
    · subst e; simp only [if_pos rfl]; exact cmpS_gt xs ys
    · rw [if_neg e, if_neg (show ¬ y = x from fun z => e z.symm)]
      have ne : x.toNat ≠ y.toNat := fun z => e (Char.toNat_inj.mp z)
      by_cases l : x.toNat < y.toNat
      · rw [if_pos l, if_neg (by omega)]; simp
      · rw [if_neg l, if_pos (by omega)]; simp
def copOf : Cop → CmpOp
  | .eq => .Eq | .ne => .NotEq | .lt => .Lt | .le => .LtE | .gt => .Gt | .ge => .GtE | .is => .Is | .isnot => .IsNot | .isin => .In | .notin => .NotIn
def r2B (K : Kx) (f : Store → T → T → Option Bool) : R2 := fun x y H Q => ∃ w m a b r, Sim K w m H ∧ Rep K w a x ∧ Rep K w b y ∧ f m a b = some r ∧ okV K w Q (.bl r) m
theorem in_rep (neg : Bool) (hu : X.A.units + 65 < cLine) : OpR X (compareOp (if neg then .NotIn else .In)) (r2B (X.kx hx) fun m x y => (memT m x y).map fun r => if neg then !r else r) := by
  intro pins s sg H x y v u Q I rx ry ⟨w, m, a, b, r, S, ra, rb, e, q⟩
  obtain ⟨r0, e0, rfl⟩ := Option.map_eq_some_iff.mp e
  have lst : ∀ ys : List T, (∃ p vs, y = .ref p ∧ H p = some (.lst vs) ∧ Reps (X.kx hx) w ys vs) → memL m a ys = some r0 →
      wpAny (model X.prog X.w) X.A (compareOp (if neg then .NotIn else .In) v u) (EP X pins sg Q) X.xe s := by
    rintro ys ⟨p, vs, rfl, hp, rv⟩ e
    obtain ⟨z, hz, e⟩ := Option.bind_eq_some_iff.mp e
    · split at e
      · rename_i hok
        simp only [Option.some.injEq] at e; subst e
        obtain ⟨h1, h2⟩ := dat_rep S ra hz
        have hoks : T.okNs 59 ys = true := by simpa [T.ok, T.okN] using hok
        have hd : Dp X.K H (.ref p) (.list (toDs ys)) := .lst (.of hp) (dps_rep S.z 59 ys vs hoks rv)
        have hs : SeqAt.shaped (.list (toDs ys)) = true := shaped_toD (a := .lst ys) hok
        cases neg with
        | true => exact op_notInD hu pins s sg H _ _ v u Q I rx ry ⟨_, _, h2, hd, shaped_toD h1, hs, by rw [mem_eqv ys z hoks h1]; exact q.use S (.bl _)⟩
        | false => exact op_inD hu pins s sg H _ _ v u Q I rx ry ⟨_, _, h2, hd, shaped_toD h1, hs, by rw [mem_eqv ys z hoks h1]; exact q.use S (.bl _)⟩
      · cases e
  cases rb with
  | str z =>
    cases ra with
    | str c =>
      match c, e0, rx with
      | [c], e0, rx =>
        simp only [memT, Option.some.injEq] at e0; subst e0
        have eq : decide (c.toNat ∈ (toStr z).cps.toList) = z.contains c := by
          rw [Bool.eq_iff_iff]
          simp only [decide_eq_true_eq, toStr, List.mem_map, List.contains_eq_mem]
          exact ⟨fun ⟨d, hd, e⟩ => by rw [← Char.toNat_inj.mp e]; exact hd, fun h => ⟨c, h, rfl⟩⟩
        have one : toStr [c] = ⟨#[c.toNat]⟩ := rfl
        cases neg with
        | true => exact op_notIn_sign pins s sg H _ _ v u Q I rx ry ⟨c.toNat, toStr z, by rw [one], rfl, by rw [eq]; exact q.use S (.bl _)⟩
        | false => exact op_in_sign pins s sg H _ _ v u Q I rx ry ⟨c.toNat, toStr z, by rw [one], rfl, by rw [eq]; exact q.use S (.bl _)⟩
      | [], e0, _ => simp [memT] at e0
      | _ :: _ :: _, e0, _ => simp [memT] at e0
    | _ => simp [memT] at e0
  | @tup p vs ys hp rp =>
    simp only [memT] at e0
    split at e0
    · rename_i h
      simp only [Option.some.injEq] at e0; subst e0
      rw [Bool.and_eq_true] at h
      have ei := inV_rep ra h.1 rp h.2
      cases neg with
      | true => exact op_notIn_seq pins s sg H _ _ v u Q I rx ry ⟨p, vs, rfl, .inr (.of (S.z _ _ hp)), flat_rep ra h.1, flats_rep rp h.2, by show Q (.bl (!inV x vs)) H; rw [ei]; exact q.use S (.bl _)⟩
      | false => exact op_in_seq pins s sg H _ _ v u Q I rx ry ⟨p, vs, rfl, .inr (.of (S.z _ _ hp)), flat_rep ra h.1, flats_rep rp h.2, by show Q (.bl (inV x vs)) H; rw [ei]; exact q.use S (.bl _)⟩
    · cases e0
  | @lst p vs ys hp rp =>
    exact lst ys ⟨p, vs, rfl, S.z _ _ hp, rp⟩ (by simpa [memT, vwL] using e0)
  | @obj n p hn =>
    simp only [memT, vwL] at e0
    cases hm : m[n]? with
    | none => simp [hm, vwD] at e0
    | some c =>
      cases c with
      | lst ys =>
        obtain ⟨vs, q1, r1⟩ := S.cells n p _ hn hm
        exact lst ys ⟨p, vs, rfl, q1, r1⟩ (by simpa [hm] using e0)
      | dct ks vs => exact (S.cells n p _ hn hm).elim
      | dead => simp [hm, vwD] at e0
      | ins _ _ => simp [hm, vwD] at e0
  | _ => simp [memT, vwL, vwD] at e0

theorem is_rep (neg : Bool) : OpR X (compareOp (if neg then .IsNot else .Is)) (r2B (X.kx hx) fun _ x y => (isT x y).map fun r => if neg then !r else r) := by
  intro pins s sg H x y v u Q I rx ry ⟨w, m, a, b, r, S, ra, rb, e, q⟩
  obtain ⟨r0, e0, rfl⟩ := Option.map_eq_some_iff.mp e
  cases rb with
  | non =>
    simp only [isT, Option.some.injEq] at e0; subst e0
    have en : decide (x = .non) = isNon a := by cases ra <;> simp [isNon]
    cases neg with
    | true => exact op_notN pins s sg H _ _ v u Q I rx ry ⟨rfl, by rw [en]; exact q.use S (.bl _)⟩
    | false => exact op_isN pins s sg H _ _ v u Q I rx ry ⟨rfl, by rw [en]; exact q.use S (.bl _)⟩
  | bl y =>
    cases ra <;> simp only [isT, Option.some.injEq, reduceCtorEq] at e0
    rename_i z
    subst e0
    have en : decide (z = y) = (z == y) := by cases z <;> cases y <;> rfl
    cases neg with
    | true => exact op_notBl pins s sg H _ _ v u Q I rx ry ⟨z, y, rfl, rfl, by rw [en]; exact q.use S (.bl _)⟩
    | false => exact op_isBl pins s sg H _ _ v u Q I rx ry ⟨z, y, rfl, rfl, by rw [en]; exact q.use S (.bl _)⟩
  | _ => simp [isT] at e0
theorem eq_rep (neg : Bool) (hu : X.A.units + 64 < cLine) : OpR X (compareOp (if neg then .NotEq else .Eq)) (r2B (X.kx hx) fun m x y => (dat m x).bind fun a => (dat m y).bind fun b => some (if neg then !T.eqv a b else T.eqv a b)) := by
  intro pins s sg H x y v u Q I rx ry ⟨w, m, a, b, r, S, ra, rb, e, q⟩
  obtain ⟨c, hc, e⟩ := Option.bind_eq_some_iff.mp e
  obtain ⟨d, hd, e⟩ := Option.bind_eq_some_iff.mp e
  simp only [Option.some.injEq] at e
  obtain ⟨h1, h2⟩ := dat_rep S ra hc
  obtain ⟨h3, h4⟩ := dat_rep S rb hd
  have ev := eqv_toD 60 c d h1 60 h3
  cases neg with
  | true =>
    simp only [if_true] at e; subst e
    exact op_neD hu pins s sg H _ _ v u Q I rx ry ⟨_, _, h2, h4, shaped_toD h1, shaped_toD h3, by rw [ev]; exact q.use S (.bl _)⟩
  | false =>
    simp only [Bool.false_eq_true, if_false] at e; subst e
    exact op_eqD hu pins s sg H _ _ v u Q I rx ry ⟨_, _, h2, h4, shaped_toD h1, shaped_toD h3, by rw [ev]; exact q.use S (.bl _)⟩
theorem op_cmp (o : Cop) (hu : X.A.units + 65 < cLine) : OpR X (compareOp (copOf o)) (r2B (X.kx hx) fun m => cmpT m o) := by
  cases o with
  | eq => exact eq_rep false (by omega)
  | ne => exact eq_rep true (by omega)
  | is =>
    intro pins s sg H x y v u Q I rx ry ⟨w, m, a, b, r, S, ra, rb, e, q⟩
    exact is_rep false pins s sg H x y v u Q I rx ry ⟨w, m, a, b, r, S, ra, rb, by show Option.map _ (isT a b) = some r; rw [show isT a b = some r from e]; rfl, q⟩
  | isnot => exact is_rep true
  | isin =>
    intro pins s sg H x y v u Q I rx ry ⟨w, m, a, b, r, S, ra, rb, e, q⟩
    exact in_rep false hu pins s sg H x y v u Q I rx ry ⟨w, m, a, b, r, S, ra, rb, by show Option.map _ (memT m a b) = some r; rw [show memT m a b = some r from e]; rfl, q⟩
  | notin => exact in_rep true hu
  | lt =>
    intro pins s sg H x y v u Q I rx ry ⟨w, m, a, b, r, S, ra, rb, e, q⟩
    cases ra <;> cases rb <;> simp only [cmpT, Option.some.injEq, reduceCtorEq] at e <;> subst e
    · rw [ord_lt] at q; exact op_lt pins s sg H _ _ v u Q I rx ry ⟨_, _, rfl, rfl, q.use S (.bl _)⟩
    · rename_i i j
      refine op_lt_str pins s sg H _ _ v u Q I rx ry ⟨_, _, rfl, rfl, ?_⟩
      have : decide ((toStr i).cps.toList < (toStr j).cps.toList) = ordT .lt (T.cmpS i j) := by
        rw [Bool.eq_iff_iff]; simp only [decide_eq_true_eq, ordT, beq_iff_eq]; exact cmpS_lt i j
      rw [this]; exact q.use S (.bl _)
  | gt =>
    intro pins s sg H x y v u Q I rx ry ⟨w, m, a, b, r, S, ra, rb, e, q⟩
    cases ra <;> cases rb <;> simp only [cmpT, Option.some.injEq, reduceCtorEq] at e <;> subst e
    · rw [ord_gt] at q; exact op_gt pins s sg H _ _ v u Q I rx ry ⟨_, _, rfl, rfl, q.use S (.bl _)⟩
    · rename_i i j
      refine op_gt_str pins s sg H _ _ v u Q I rx ry ⟨_, _, rfl, rfl, ?_⟩
      have : decide ((toStr j).cps.toList < (toStr i).cps.toList) = ordT .gt (T.cmpS i j) := by
        rw [Bool.eq_iff_iff]; simp only [decide_eq_true_eq, ordT, beq_iff_eq]; rw [cmpS_lt j i]; exact (cmpS_gt i j).symm
      rw [this]; exact q.use S (.bl _)
  | le =>
    intro pins s sg H x y v u Q I rx ry ⟨w, m, a, b, r, S, ra, rb, e, q⟩
    cases ra <;> cases rb <;> simp only [cmpT, Option.some.injEq, reduceCtorEq] at e <;> subst e
    · rw [ord_le] at q; exact op_le pins s sg H _ _ v u Q I rx ry ⟨_, _, rfl, rfl, q.use S (.bl _)⟩
    · rename_i i j
      refine op_le_str pins s sg H _ _ v u Q I rx ry ⟨_, _, rfl, rfl, ?_⟩
      have : (!decide ((toStr j).cps.toList < (toStr i).cps.toList)) = ordT .le (T.cmpS i j) := by
        rw [Bool.eq_iff_iff]; simp only [Bool.not_eq_true', decide_eq_false_iff_not, ordT, bne_iff_ne]; rw [cmpS_lt j i, ← cmpS_gt i j]
      rw [this]; exact q.use S (.bl _)
  | ge =>
    intro pins s sg H x y v u Q I rx ry ⟨w, m, a, b, r, S, ra, rb, e, q⟩
    cases ra <;> cases rb <;> simp only [cmpT, Option.some.injEq, reduceCtorEq] at e <;> subst e
    · rw [ord_ge] at q; exact op_ge pins s sg H _ _ v u Q I rx ry ⟨_, _, rfl, rfl, q.use S (.bl _)⟩
    · rename_i i j
      refine op_ge_str pins s sg H _ _ v u Q I rx ry ⟨_, _, rfl, rfl, ?_⟩
      have : (!decide ((toStr i).cps.toList < (toStr j).cps.toList)) = ordT .ge (T.cmpS i j) := by
        rw [Bool.eq_iff_iff]; simp only [Bool.not_eq_true', decide_eq_false_iff_not, ordT, bne_iff_ne]; rw [cmpS_lt i j]
      rw [this]; exact q.use S (.bl _)
theorem tru_rep (S : Sim K w m H) {t : T} {v : V} {b : Bool} (r : Rep K w t v) (e : truth m t = some b) : TruV K.K v H b := by
  cases r with
  | non => simp only [truth, Option.some.injEq] at e; exact e.symm
  | bl c => simp only [truth, Option.some.injEq] at e; exact e.symm
  | int i => simp only [truth, Option.some.injEq] at e; exact e.symm
  | str z =>
    simp only [truth] at e
    split at e
    · rename_i h
      simp only [Option.some.injEq] at e; subst e
      refine ⟨by rw [toStr_len, LINE_eq]; exact h, ?_⟩
      rw [toStr_len]
      cases z with
      | nil => rfl
      | cons c z => simp; omega
    · cases e
  | @tup p vs ts hp rp =>
    simp only [truth, Option.some.injEq] at e; subst e
    refine .inr (.inl ⟨vs, .of (S.z _ _ hp), ?_⟩)
    have := rp.length
    cases ts <;> cases vs <;> simp_all
  | @lst p vs ts hp rp =>
    simp only [truth, vwL, Option.some.injEq] at e; subst e
    refine .inl ⟨vs, .of (S.z _ _ hp), ?_⟩
    have := rp.length
    cases ts <;> cases vs <;> simp_all
  | @obj n p hn =>
    simp only [truth, vwL, vwD] at e
    cases hm : m[n]? with
    | none => simp [hm] at e
    | some c =>
      cases c with
      | lst ts =>
        obtain ⟨vs, q1, rp⟩ := S.cells n p _ hn hm
        simp only [hm, Option.some.injEq] at e; subst e
        refine .inl ⟨vs, .of q1, ?_⟩
        have := rp.length
        cases ts <;> cases vs <;> simp_all
      | dct ks vs => exact (S.cells n p _ hn hm).elim
      | dead => simp [hm] at e
      | ins _ _ => simp [hm] at e
  | scr _ => simp [truth, vwL, vwD] at e
  | exc _ => simp [truth, vwL, vwD] at e
end
end MP
end

section
set_option Elab.async false
set_option linter.all false
set_option maxRecDepth 100000
/-! MP5: items, slices, built-in functions and methods, by values. -/
namespace MP
open PySem PySem.Spec PyProof.Rows L2
section
variable {X : Cx} {hx : Option (Addr × Nat × List T)} {K : Kx} {w : Wd} {m : Store} {H : Hp}
theorem ixT_ixN (n : Nat) (i : Int) : ixT n i = ixN n i := rfl
theorem atT_rep {ts : List T} {vs : List V} {i : Int} {t : T} (r : Reps K w ts vs) (e : atT ts i = some t) : ∃ v, atI vs i = some v ∧ Rep K w t v := by
  unfold atT at e
  obtain ⟨j, h1, h2⟩ := Option.bind_eq_some_iff.mp e
  obtain ⟨v, h3, h4⟩ := r.get h2
  refine ⟨v, ?_, h4⟩
  unfold atI
  rw [← r.length, ← ixT_ixN, h1]
  exact h3
theorem atT_map {α β : Type} (f : α → β) (xs : List α) (i : Int) : atI (xs.map f) i = (atT xs i).map f := by
  unfold atI atT
  rw [List.length_map, ixT_ixN]
  cases ixN xs.length i with
  | none => rfl
  | some j => simp
theorem ix_rep : IxR X (r2T (X.kx hx) idxT) := by
  intro value slice pins s sg H x y v u Q I rx ry ⟨w, m, a, b, r, S, ra, rb, e, q⟩ hs
  have lst : ∀ xs : List T, vwL m a = some xs → idxL xs b = some r → wpAny (model X.prog X.w) X.A (subscriptTail value slice v u) (EP X pins sg Q) X.xe s := by
    intro xs h1 h2
    obtain ⟨p, vs, rfl, hp, rv⟩ := vwL_rep S ra h1
    cases rb <;> simp only [idxL, reduceCtorEq] at h2
    rename_i i
    obtain ⟨z, h3, h4⟩ := atT_rep rv h2
    exact ix_list value slice pins s sg H _ _ v u Q I rx ry ⟨p, vs, i, z, rfl, rfl, .of hp, h3, q.use S h4⟩ hs
  cases ra with
  | @tup p vs ts hp rp =>
    cases rb <;> simp only [idxT, reduceCtorEq] at e
    case int i =>
      obtain ⟨z, h3, h4⟩ := atT_rep rp e
      exact ix_tup value slice pins s sg H _ _ v u Q I rx ry ⟨p, vs, i, z, rfl, rfl, .of (S.z _ _ hp), h3, q.use S h4⟩ hs
    all_goals simp [vwL, vwD] at e
  | str z =>
    cases rb <;> simp only [idxT, reduceCtorEq] at e
    case int i =>
      split at e
      · rename_i hl
        obtain ⟨c, hc, rfl⟩ := Option.map_eq_some_iff.mp e
        refine ix_str value slice pins s sg H _ _ v u Q I rx ry ⟨toStr z, i, c.toNat, rfl, rfl, by rw [toStr_len, LINE_eq]; exact hl, ?_, q.use S (.str [c])⟩ hs
        show atI (z.map Char.toNat).toArray.toList i = _
        rw [show (z.map Char.toNat).toArray.toList = z.map Char.toNat from by simp, atT_map, hc]; rfl
      · cases e
    all_goals simp [vwL, vwD] at e
  | @scr p xs hp =>
    cases rb <;> simp only [idxT, reduceCtorEq] at e
    case int i =>
      obtain ⟨c, hc, rfl⟩ := Option.map_eq_some_iff.mp e
      exact ix_list value slice pins s sg H _ _ v u Q I rx ry ⟨p, _, i, .int c, rfl, rfl, MP.SqL.sub hp S.z, by rw [atT_map, hc]; rfl, q.use S (.int c)⟩ hs
    all_goals simp [vwL, vwD] at e
  | @lst p vs ts hp rp =>
    exact lst ts rfl (by simpa [idxT, vwL] using e)
  | @obj n p hn =>
    cases hm : m[n]? with
    | none => simp [idxT, vwL, vwD, hm] at e
    | some c =>
      cases c with
      | lst ts => exact lst ts (by simp [vwL, hm]) (by simpa [idxT, vwL, hm] using e)
      | dct ks vs => exact (S.cells n p _ hn hm).elim
      | dead => simp [idxT, vwL, vwD, hm] at e
      | ins _ _ => simp [idxT, vwL, vwD, hm] at e
  | _ => simp [idxT, vwL, vwD] at e
theorem cutB_sIx (n d : Nat) (o : Option Int) : cutB n d o = HT.sIx n d o := by cases o <;> rfl
theorem cutT_V (vs : List V) (lo hi : Option Int) : cutT vs lo hi = cutV vs lo hi := by unfold cutT cutV; rw [cutB_sIx, cutB_sIx]
theorem Reps.cut {ts : List T} {vs : List V} (r : Reps K w ts vs) (lo hi : Option Int) : Reps K w (cutT ts lo hi) (cutV vs lo hi) := by
  rw [← cutT_V]
  unfold cutT
  rw [r.length]
  exact (r.drop _).take _
def rSlT' (K : Kx) : V → Option Int → Option Int → Hp → VK → Prop := fun x lo hi H Q => ∃ w m a r, Sim K w m H ∧ Rep K w a x ∧ sliceT m a lo hi = some r ∧ okV K w Q r m
theorem sl_rep : SlR X (rSlT' (X.kx hx)) := by
  intro pins s sg H x v vl vu lo hi sl Q I rx hs pl pu ⟨w, m, a, r, S, ra, e, q⟩
  have lst : ∀ xs : List T, vwL m a = some xs → T.lst (cutT xs lo hi) = r → ∃ T id, typeLookup (.type T) "__getitem__" = pure (some (.builtin id)) ∧ s.TypeIs v T ∧ wpAny (model X.prog X.w) X.A (getItem v (.ref sl)) (EP X pins sg Q) X.xe s := by
    intro xs h1 h2
    subst h2
    obtain ⟨p, vs, rfl, hp, rv⟩ := vwL_rep S ra h1
    refine sl_list pins s sg H _ v vl vu lo hi sl Q I rx hs pl pu ⟨p, vs, rfl, .of hp, fun z hz => ?_⟩
    obtain ⟨S', le⟩ := S.newZ hz (.lst (cutV vs lo hi))
    exact q _ _ le S' _ (.lst upd_same ((rv.cut lo hi).mono le))
  cases ra with
  | str z =>
    simp only [sliceT] at e
    split at e
    · rename_i hl
      simp only [Option.some.injEq] at e; subst e
      refine sl_str pins s sg H _ v vl vu lo hi sl Q I rx hs pl pu ⟨toStr z, rfl, by rw [toStr_len, LINE_eq]; exact hl, ?_⟩
      have : cutS (toStr z) lo hi = toStr (cutT z lo hi) := by
        unfold cutS cutT
        rw [cutB_sIx, cutB_sIx, toStr_len]
        show _ = (⟨(List.map Char.toNat _).toArray⟩ : Str)
        rw [List.map_take, List.map_drop]
        simp [toStr]
      rw [this]
      exact q.use S (.str _)
    · cases e
  | @tup p vs ts hp rp =>
    simp only [sliceT] at e
    split at e
    · cases e
    · rename_i hn
      simp only [Option.some.injEq] at e; subst e
      refine sl_tup pins s sg H _ v vl vu lo hi sl Q I rx hs pl pu ⟨p, vs, rfl, .of (S.z _ _ hp), ?_, fun z hz => ?_⟩
      · rw [← cutB_sIx, ← cutB_sIx, ← rp.length]; exact hn
      · obtain ⟨S', le⟩ := S.newZ hz (.tup (cutV vs lo hi))
        exact q _ _ le S' _ (.tup upd_same ((rp.cut lo hi).mono le))
  | @lst p vs ts hp rp =>
    exact lst ts rfl (by simpa [sliceT, vwL] using e)
  | @obj n p hn =>
    cases hm : m[n]? with
    | none => simp [sliceT, vwL, hm] at e
    | some c =>
      cases c with
      | lst ts => exact lst ts (by simp [vwL, hm]) (by simpa [sliceT, vwL, hm] using e)
      | _ => simp [sliceT, vwL, hm] at e
  | _ => simp [sliceT, vwL] at e

/-! ### built-in functions -/
def rBi (K : Kx) (f : Bi) : List V → Hp → VK → Prop := fun xs H Q => ∃ w m ts r, Sim K w m H ∧ Reps K w ts xs ∧ biT m f ts = some r ∧ okV K w Q r m
theorem intsOf_rep : ∀ {ts : List T} {vs : List V} {l : List Int}, Reps K w ts vs → intsOf ts = some l → vs = l.map V.int
  | _, _, l, .nil, e => by simp [intsOf] at e; subst e; rfl
  | _, _, l, .cons h r, e => by
    cases h <;> simp only [intsOf, reduceCtorEq] at e
    obtain ⟨l', h1, rfl⟩ := Option.map_eq_some_iff.mp e
    rw [intsOf_rep r h1]; rfl
theorem maxI_is : ∀ (r : List Int) (a : Int), maxI a r ∈ a :: r ∧ ∀ y ∈ a :: r, y ≤ maxI a r
  | [], a => by simp [maxI]
  | b :: r, a => by
    obtain ⟨h1, h2⟩ := maxI_is r (if b > a then b else a)
    have hm := h2 _ List.mem_cons_self
    refine ⟨?_, fun y hy => ?_⟩
    · rcases List.mem_cons.mp h1 with e | e
      · show maxI (if b > a then b else a) r ∈ _
        rw [e]; split <;> simp
      · exact List.mem_cons_of_mem _ (List.mem_cons_of_mem _ e)
    · show y ≤ maxI (if b > a then b else a) r
      rcases List.mem_cons.mp hy with rfl | hy
      · split at hm <;> split <;> simp_all <;> omega
      · rcases List.mem_cons.mp hy with rfl | hy
        · split at hm <;> split <;> simp_all <;> omega
        · exact h2 y (List.mem_cons_of_mem _ hy)
theorem minI_is : ∀ (r : List Int) (a : Int), minI a r ∈ a :: r ∧ ∀ y ∈ a :: r, minI a r ≤ y
  | [], a => by simp [minI]
  | b :: r, a => by
    obtain ⟨h1, h2⟩ := minI_is r (if b < a then b else a)
    have hm := h2 _ List.mem_cons_self
    refine ⟨?_, fun y hy => ?_⟩
    · rcases List.mem_cons.mp h1 with e | e
      · show minI (if b < a then b else a) r ∈ _
        rw [e]; split <;> simp
      · exact List.mem_cons_of_mem _ (List.mem_cons_of_mem _ e)
    · show minI (if b < a then b else a) r ≤ y
      rcases List.mem_cons.mp hy with rfl | hy
      · split at hm <;> split <;> simp_all <;> omega
      · rcases List.mem_cons.mp hy with rfl | hy
        · split at hm <;> split <;> simp_all <;> omega
        · exact h2 y (List.mem_cons_of_mem _ hy)
theorem one_arg {ts : List T} {vs : List V} {t : T} (r : Reps K w ts vs) (e : ts = [t]) : ∃ v, vs = [v] ∧ Rep K w t v := by
  subst e
  cases r with
  | cons h r => cases r; exact ⟨_, rfl, h⟩
theorem two_args {ts : List T} {vs : List V} {t u : T} (r : Reps K w ts vs) (e : ts = [t, u]) : ∃ v z, vs = [v, z] ∧ Rep K w t v ∧ Rep K w u z := by
  subst e
  cases r with
  | cons h r =>
    cases r with
    | cons h2 r => cases r; exact ⟨_, _, rfl, h, h2⟩
theorem int_text (i : Int) : (toString i : String) = String.ofList (showI i) := by
  cases i with
  | ofNat n =>
    show toString n = _
    unfold showI
    rw [if_neg (by simp)]
    simp [figs]
    rfl
  | negSucc n =>
    unfold showI
    rw [if_pos (Int.negSucc_lt_zero n)]
    show "-" ++ toString (n + 1) = _
    rw [← String.toList_inj, String.toList_append]
    simp [figs, Int.natAbs]
theorem ofString_chars (l : List Char) : Str.ofString (String.ofList l) = toStr l := by
  rw [Str.ofString_eq_toList, String.toList_ofList]; rfl
theorem call_len_rep : CallR X (.builtin "len") (rBi (X.kx hx) .len) := by
  intro pins s sg H xs us Q I rx ⟨w, m, ts, r, S, rv, e, q⟩
  match ts, e, rv with
  | [], e, _ => simp [biT] at e
  | _ :: _ :: _, e, _ => simp [biT] at e
  | [t], e, rv =>
    obtain ⟨v, rfl, ra⟩ := one_arg rv rfl
    cases ra with
    | str z =>
      simp only [biT] at e
      split at e
      · rename_i hl
        simp only [Option.some.injEq] at e; subst e
        refine call_len_str pins s sg H _ us Q I rx ⟨toStr z, rfl, by rw [toStr_len, LINE_eq]; exact hl, ?_⟩
        rw [toStr_len]; exact q.use S (.int _)
      · cases e
    | @tup p vs xs hp rp =>
      simp only [biT, Option.some.injEq] at e; subst e
      exact call_len_seq pins s sg H _ us Q I rx ⟨p, vs, rfl, .inr (.of (S.z _ _ hp)), by rw [← rp.length]; exact q.use S (.int _)⟩
    | @scr p l hp =>
      simp only [biT, Option.some.injEq] at e; subst e
      exact call_len_seq pins s sg H _ us Q I rx ⟨p, _, rfl, .inl (MP.SqL.sub hp S.z), by rw [List.length_map]; exact q.use S (.int _)⟩
    | @lst p vs xs hp rp =>
      simp only [biT, vwL, Option.some.injEq] at e; subst e
      exact call_len_seq pins s sg H _ us Q I rx ⟨p, vs, rfl, .inl (.of (S.z _ _ hp)), by rw [← rp.length]; exact q.use S (.int _)⟩
    | @obj n p hn =>
      cases hm : m[n]? with
      | none => simp [biT, vwL, vwD, hm] at e
      | some c =>
        cases c with
        | lst ts =>
          obtain ⟨vs, q1, rp⟩ := S.cells n p _ hn hm
          simp only [biT, vwL, hm, Option.some.injEq] at e; subst e
          exact call_len_seq pins s sg H _ us Q I rx ⟨p, vs, rfl, .inl (.of q1), by rw [← rp.length]; exact q.use S (.int _)⟩
        | dct ks vs => exact (S.cells n p _ hn hm).elim
        | dead => simp [biT, vwL, vwD, hm] at e
        | ins _ _ => simp [biT, vwL, vwD, hm] at e
    | _ => simp [biT, vwL, vwD] at e
theorem call_abs_rep : CallR X (.builtin "abs") (rBi (X.kx hx) .abs) := by
  intro pins s sg H xs us Q I rx ⟨w, m, ts, r, S, rv, e, q⟩
  match ts, e, rv with
  | [], e, _ => simp [biT] at e
  | _ :: _ :: _, e, _ => simp [biT] at e
  | [t], e, rv =>
    obtain ⟨v, rfl, ra⟩ := one_arg rv rfl
    cases ra <;> simp only [biT, Option.some.injEq, reduceCtorEq] at e
    subst e
    exact call_abs pins s sg H _ us Q I rx ⟨_, rfl, q.use S (.int _)⟩
theorem call_int_rep : CallR X (.type "int") (rBi (X.kx hx) .int) := by
  intro pins s sg H xs us Q I rx ⟨w, m, ts, r, S, rv, e, q⟩
  match ts, e, rv with
  | [], e, _ => simp [biT] at e
  | _ :: _ :: _, e, _ => simp [biT] at e
  | [t], e, rv =>
    obtain ⟨v, rfl, ra⟩ := one_arg rv rfl
    cases ra <;> simp only [biT, Option.some.injEq, reduceCtorEq] at e <;> subst e
    · exact call_int1 pins s sg H _ us Q I rx (.inr ⟨_, rfl, q.use S (.int _)⟩)
    · exact call_int1 pins s sg H _ us Q I rx (.inl ⟨_, rfl, q.use S (.int _)⟩)
theorem call_str_rep : CallR X (.type "str") (rBi (X.kx hx) .str) := by
  intro pins s sg H xs us Q I rx ⟨w, m, ts, r, S, rv, e, q⟩
  match ts, e, rv with
  | [], e, _ => simp [biT] at e
  | _ :: _ :: _, e, _ => simp [biT] at e
  | [t], e, rv =>
    obtain ⟨v, rfl, ra⟩ := one_arg rv rfl
    cases ra with
    | int i =>
      simp only [biT] at e
      split at e
      · rename_i hl
        simp only [Option.some.injEq] at e; subst e
        refine call_str_int pins s sg H _ us Q I rx ⟨i, rfl, hl, ?_⟩
        show Q (.str (Str.ofString (toString i))) H
        rw [int_text, ofString_chars]
        exact q.use S (.str _)
      · cases e
    | _ => simp [biT] at e
theorem call_tuple_rep : CallR X (.type "tuple") (rBi (X.kx hx) .tuple) := by
  intro pins s sg H xs us Q I rx ⟨w, m, ts, r, S, rv, e, q⟩
  match ts, e, rv with
  | [], e, _ => simp [biT] at e
  | _ :: _ :: _, e, _ => simp [biT] at e
  | [t], e, rv =>
    obtain ⟨v, rfl, ra⟩ := one_arg rv rfl
    have lst : ∀ xs : List T, vwL m t = some xs → T.tup xs = r → wpAny (model X.prog X.w) X.A (call (.type "tuple") us) (EP X pins sg Q) X.xe s := by
      intro xs h1 h2
      subst h2
      obtain ⟨p, vs, rfl, hp, rp⟩ := vwL_rep S ra h1
      refine call_tuple_of pins s sg H _ us Q I rx ⟨p, vs, rfl, .inl ⟨.of hp, fun z hz => ?_⟩⟩
      obtain ⟨S', le⟩ := S.newZ hz (.tup vs)
      exact q _ _ le S' _ (.tup upd_same (rp.mono le))
    cases ra with
    | @tup p vs xs hp rp =>
      simp only [biT, Option.some.injEq] at e; subst e
      exact call_tuple_of pins s sg H _ us Q I rx ⟨p, vs, rfl, .inr ⟨.of (S.z _ _ hp), q.use S (.tup hp rp)⟩⟩
    | @lst p vs xs hp rp => exact lst xs rfl (by simpa [biT, vwL] using e)
    | @obj n p hn =>
      cases hm : m[n]? with
      | none => simp [biT, vwL, hm] at e
      | some c =>
        cases c with
        | lst xs => exact lst xs (by simp [vwL, hm]) (by simpa [biT, vwL, hm] using e)
        | _ => simp [biT, vwL, hm] at e
    | _ => simp [biT, vwL] at e
theorem call_sum_rep (hc : X.calm = true) : CallR X (.builtin "sum") (rBi (X.kx hx) .sum) := by
  intro pins s sg H xs us Q I rx ⟨w, m, ts, r, S, rv, e, q⟩
  match ts, e, rv with
  | [], e, _ => simp [biT] at e
  | _ :: _ :: _, e, _ => simp [biT] at e
  | [t], e, rv =>
    obtain ⟨v, rfl, ra⟩ := one_arg rv rfl
    simp only [biT] at e
    split at e
    · rename_i ys hy
      obtain ⟨l, hl, rfl⟩ := Option.map_eq_some_iff.mp e
      obtain ⟨p, vs, rfl, hp, rp⟩ := vwL_rep S ra hy
      have := intsOf_rep rp hl
      subst this
      exact cr_sum hc pins s sg H _ us Q I rx ⟨p, l, rfl, .of hp, q.use S (.int _)⟩
    · cases e
theorem call_max_rep (hc : X.calm = true) : CallR X (.builtin "max") (rBi (X.kx hx) .max) := by
  intro pins s sg H xs us Q I rx ⟨w, m, ts, r, S, rv, e, q⟩
  match ts, e, rv with
  | [], e, _ => simp [biT] at e
  | _ :: _ :: _, e, _ => simp [biT] at e
  | [t], e, rv =>
    obtain ⟨v, rfl, ra⟩ := one_arg rv rfl
    simp only [biT] at e
    split at e
    · rename_i ys hy
      split at e
      · rename_i a r' hl
        simp only [Option.some.injEq] at e; subst e
        obtain ⟨p, vs, rfl, hp, rp⟩ := vwL_rep S ra hy
        have := intsOf_rep rp hl
        subst this
        obtain ⟨m1, m2⟩ := maxI_is r' a
        refine cr_max hc pins s sg H _ us Q I rx ⟨p, a :: r', rfl, .of hp, by simp, fun M h1 h2 => ?_⟩
        have : M = maxI a r' := Int.le_antisymm (m2 M h1) (h2 _ m1)
        rw [this]; exact q.use S (.int _)
      · cases e
    · cases e
theorem call_min_rep (hc : X.calm = true) : CallR X (.builtin "min") (rBi (X.kx hx) .min) := by
  intro pins s sg H xs us Q I rx ⟨w, m, ts, r, S, rv, e, q⟩
  match ts, e, rv with
  | [], e, _ => simp [biT] at e
  | _ :: _ :: _, e, _ => simp [biT] at e
  | [t], e, rv =>
    obtain ⟨v, rfl, ra⟩ := one_arg rv rfl
    simp only [biT] at e
    split at e
    · rename_i ys hy
      split at e
      · rename_i a r' hl
        simp only [Option.some.injEq] at e; subst e
        obtain ⟨p, vs, rfl, hp, rp⟩ := vwL_rep S ra hy
        have := intsOf_rep rp hl
        subst this
        obtain ⟨m1, m2⟩ := minI_is r' a
        refine cr_min hc pins s sg H _ us Q I rx ⟨p, a :: r', rfl, .of hp, by simp, fun M h1 h2 => ?_⟩
        have : M = minI a r' := Int.le_antisymm (h2 _ m1) (m2 M h1)
        rw [this]; exact q.use S (.int _)
      · cases e
    · cases e
theorem call_max2_rep (hc : X.calm = true) : CallR X (.builtin "max") (rBi (X.kx hx) .max2) := by
  intro pins s sg H xs us Q I rx ⟨w, m, ts, r, S, rv, e, q⟩
  match ts, e, rv with
  | [], e, _ => simp [biT] at e
  | [_], e, _ => simp [biT] at e
  | _ :: _ :: _ :: _, e, _ => simp [biT] at e
  | [t, u], e, rv =>
    obtain ⟨v, z, rfl, ra, rb⟩ := two_args rv rfl
    cases ra <;> cases rb <;> simp only [biT, Option.some.injEq, reduceCtorEq] at e
    subst e
    exact call_max2 hc pins s sg H _ us Q I rx ⟨_, _, rfl, q.use S (.int _)⟩
theorem call_min2_rep (hc : X.calm = true) : CallR X (.builtin "min") (rBi (X.kx hx) .min2) := by
  intro pins s sg H xs us Q I rx ⟨w, m, ts, r, S, rv, e, q⟩
  match ts, e, rv with
  | [], e, _ => simp [biT] at e
  | [_], e, _ => simp [biT] at e
  | _ :: _ :: _ :: _, e, _ => simp [biT] at e
  | [t, u], e, rv =>
    obtain ⟨v, z, rfl, ra, rb⟩ := two_args rv rfl
    cases ra <;> cases rb <;> simp only [biT, Option.some.injEq, reduceCtorEq] at e
    subst e
    exact call_min2 hc pins s sg H _ us Q I rx ⟨_, _, rfl, q.use S (.int _)⟩

theorem ints_reps : ∀ l : List Int, Reps K w (l.map T.int) (l.map V.int)
  | [] => .nil
  | i :: l => .cons (.int i) (ints_reps l)
theorem call_list_rep : CallR X (.type "list") (rBi (X.kx hx) .list) := by
  intro pins s sg H xs us Q I rx ⟨w, m, ts, r, S, rv, e, q⟩
  match ts, e, rv with
  | [], e, _ => simp [biT] at e
  | _ :: _ :: _, e, _ => simp [biT] at e
  | [t], e, rv =>
    obtain ⟨v, rfl, ra⟩ := one_arg rv rfl
    have lst : ∀ xs : List T, vwL m t = some xs → T.lst xs = r → wpAny (model X.prog X.w) X.A (call (.type "list") us) (EP X pins sg Q) X.xe s := by
      intro xs h1 h2
      subst h2
      obtain ⟨p, vs, rfl, hp, rp⟩ := vwL_rep S ra h1
      refine call_list_of pins s sg H _ us Q I rx ⟨p, vs, rfl, .inl (.of hp), fun z hz => ?_⟩
      obtain ⟨S', le⟩ := S.newZ hz (.lst vs)
      exact q _ _ le S' _ (.lst upd_same (rp.mono le))
    cases ra with
    | @tup p vs xs hp rp =>
      simp only [biT, Option.some.injEq] at e; subst e
      refine call_list_of pins s sg H _ us Q I rx ⟨p, vs, rfl, .inr (.of (S.z _ _ hp)), fun z hz => ?_⟩
      obtain ⟨S', le⟩ := S.newZ hz (.lst vs)
      exact q _ _ le S' _ (.lst upd_same (rp.mono le))
    | @scr p l hp =>
      simp only [biT, Option.some.injEq] at e; subst e
      refine call_list_of pins s sg H _ us Q I rx ⟨p, _, rfl, .inl (MP.SqL.sub hp S.z), fun z hz => ?_⟩
      obtain ⟨S', le⟩ := S.newZ hz (.lst (l.map V.int))
      exact q _ _ le S' _ (.lst upd_same (ints_reps l))
    | @lst p vs xs hp rp => exact lst xs rfl (by simpa [biT, vwL] using e)
    | @obj n p hn =>
      cases hm : m[n]? with
      | none => simp [biT, vwL, hm] at e
      | some c =>
        cases c with
        | lst xs => exact lst xs (by simp [vwL, hm]) (by simpa [biT, vwL, hm] using e)
        | _ => simp [biT, vwL, hm] at e
    | _ => simp [biT, vwL] at e

/-! ### methods that change a list -/
theorem Sim.cellAt (S : Sim K w m H) {n : Nat} {a : Addr} {c : Cell} (h : w.rho[n]? = some a) (hm : m[n]? = some c) : CellR K w H a c := S.cells n a c h hm
theorem live_set {m : Store} {n k : Nat} {c : Cell} (h : Live (m.set n c) k) (hn : Live m n ∨ c = .dead) : Live m k := by
  obtain ⟨d, e, ne⟩ := h
  by_cases q : n = k
  · subst q
    rcases hn with hn | rfl
    · exact hn
    · by_cases z : n < m.length
      · rw [List.getElem?_set_self z] at e; cases e; exact absurd rfl ne
      · rw [List.getElem?_eq_none (by simpa using z)] at e; cases e
  · rw [List.getElem?_set_ne q] at e; exact ⟨d, e, ne⟩
/-- a cell is written -/
theorem Sim.write (S : Sim K w m H) {n : Nat} {a : Addr} {c : Cell} {o : HO} (h : w.rho[n]? = some a) (hl : Live m n) (hc : CellR K w (upd H a o) a c) : Sim K w (m.set n c) (upd H a o) := by
  obtain ⟨za, fa, o0, ho⟩ := S.there n a h hl
  have nz : ∀ b u, w.Z b = some u → b ≠ a := fun b u e z => by rw [z, za] at e; cases e
  have nf : ∀ b u, w.Fr b = some u → b ≠ a := fun b u e z => by rw [z, fa] at e; cases e
  refine ⟨fun b u e => ?_, by rw [List.length_set]; exact S.len, fun i j b e1 e2 l1 l2 => S.inj i j b e1 e2 (live_set l1 (.inl hl)) (live_set l2 (.inl hl)), fun k b hb l => ?_, fun k b d e1 e2 => ?_, fun b u e => ?_⟩
  · rw [upd_ne (nz b u e)]; exact S.z b u e
  · obtain ⟨h1, h2, u, h3⟩ := S.there k b hb (live_set l (.inl hl))
    refine ⟨h1, h2, ?_⟩
    by_cases q : b = a
    · exact ⟨o, by rw [q, upd_same]⟩
    · exact ⟨u, by rw [upd_ne q]; exact h3⟩
  · by_cases q : k = n
    · subst q
      rw [h] at e1; cases e1
      have hk : k < m.length := by
        obtain ⟨d, e, _⟩ := hl
        by_cases z : k < m.length
        · exact z
        · rw [List.getElem?_eq_none (by omega)] at e; cases e
      rw [List.getElem?_set_self hk] at e2; cases e2
      exact hc
    · rw [List.getElem?_set_ne (Ne.symm q)] at e2
      cases d with
      | dead => trivial
      | _ =>
        have nb : b ≠ a := by
          intro z; subst z
          exact q (S.inj k n b e1 h ⟨_, e2, by simp⟩ hl)
        exact (S.cells k b _ e1 e2).at fun u e => by rw [upd_ne nb]; exact e
  · obtain ⟨h1, h2⟩ := S.fr b u e
    exact ⟨by rw [upd_ne (nf b u e)]; exact h1, h2⟩
/-- a cell is let go -/
theorem Sim.kill (S : Sim K w m H) (n : Nat) : Sim K w (m.set n .dead) H := by
  refine ⟨S.z, by rw [List.length_set]; exact S.len, fun i j b e1 e2 l1 l2 => S.inj i j b e1 e2 (live_set l1 (.inr rfl)) (live_set l2 (.inr rfl)), fun k b hb l => S.there k b hb (live_set l (.inr rfl)), fun k b d e1 e2 => ?_, S.fr⟩
  by_cases q : n = k
  · subst q
    by_cases z : n < m.length
    · rw [List.getElem?_set_self z] at e2; cases e2; trivial
    · rw [List.getElem?_eq_none (by simpa using z)] at e2; cases e2
  · rw [List.getElem?_set_ne q] at e2; exact S.cells k b d e1 e2
theorem Sim.killed (S : Sim K w m H) {n : Nat} {a : Addr} (h : w.rho[n]? = some a) (hl : Live m n) : Off w (m.set n .dead) a := by
  intro k e l
  have := S.inj k n a e h (live_set l (.inr rfl)) hl
  subst this
  obtain ⟨d, e2, ne⟩ := l
  by_cases z : k < m.length
  · rw [List.getElem?_set_self z] at e2; cases e2; exact ne rfl
  · rw [List.getElem?_eq_none (by simpa using z)] at e2; cases e2
/-- an update of a list cell, by its method -/
def rMut (K : Kx) (f : Mt) : V → List V → Hp → VK → Prop := fun x xs H Q => ∃ w m n c ts r c', Sim K w m H ∧ Rep K w (.obj n) x ∧ m[n]? = some c ∧ Reps K w ts xs ∧ mutT m f c ts = some (r, c') ∧ okV K w Q r (m.set n c')
theorem mut_append : MtR X "list.append" (rMut (X.kx hx) .append) := by
  intro pins s sg H x xs v us Q I rx rxs ⟨w, m, n, c, ts, r, c', S, ra, hm, rv, e, q⟩
  cases ra with
  | @obj n a hn =>
    match c, ts, e, rv with
    | .lst ys, [t], e, rv =>
      simp only [mutT] at e
      split at e
      · rename_i hl
        simp only [Option.some.injEq, Prod.mk.injEq] at e
        obtain ⟨rfl, rfl⟩ := e
        obtain ⟨z, rfl, rz⟩ := one_arg rv rfl
        obtain ⟨vs, hp, rp⟩ := S.cellAt hn hm
        refine mt_append pins s sg H _ _ v us Q I rx rxs ⟨a, vs, z, rfl, rfl, hp, by rw [LINE_eq, ← rp.length]; exact hl, ?_⟩
        exact q w _ .refl (S.write hn ⟨_, hm, by simp⟩ ⟨_, upd_same, rp.append (.cons rz .nil)⟩) _ .non
      · cases e
    | .lst ys, [], e, _ => simp [mutT] at e
    | .lst ys, _ :: _ :: _, e, _ => simp [mutT] at e
    | .dead, _, e, _ => simp [mutT] at e
    | .dct _ _, _, e, _ => simp [mutT] at e
    | .ins _ _, _, e, _ => simp [mutT] at e
theorem mut_extend : MtR X "list.extend" (rMut (X.kx hx) .extend) := by
  intro pins s sg H x xs v us Q I rx rxs ⟨w, m, n, c, ts, r, c', S, ra, hm, rv, e, q⟩
  cases ra with
  | @obj n a hn =>
    match c, ts, e, rv with
    | .lst ys, [t], e, rv =>
      simp only [mutT] at e
      split at e
      · rename_i zs hz
        split at e
        · rename_i hl
          simp only [Option.some.injEq, Prod.mk.injEq] at e
          obtain ⟨rfl, rfl⟩ := e
          obtain ⟨z, rfl, rz⟩ := one_arg rv rfl
          obtain ⟨vs, hp, rp⟩ := S.cellAt hn hm
          obtain ⟨b, ws, rfl, hb, rw'⟩ := vwL_rep S rz hz
          refine mt_extend pins s sg H _ _ v us Q I rx rxs ⟨a, b, vs, ws, rfl, rfl, hp, hb, by rw [LINE_eq, ← rp.length, ← rw'.length]; exact hl, ?_⟩
          exact q w _ .refl (S.write hn ⟨_, hm, by simp⟩ ⟨_, upd_same, rp.append rw'⟩) _ .non
        · cases e
      · cases e
    | .lst ys, [], e, _ => simp [mutT] at e
    | .lst ys, _ :: _ :: _, e, _ => simp [mutT] at e
    | .dead, _, e, _ => simp [mutT] at e
    | .dct _ _, _, e, _ => simp [mutT] at e
    | .ins _ _, _, e, _ => simp [mutT] at e
theorem mut_insert : MtR X "list.insert" (rMut (X.kx hx) .insert) := by
  intro pins s sg H x xs v us Q I rx rxs ⟨w, m, n, c, ts, r, c', S, ra, hm, rv, e, q⟩
  cases ra with
  | @obj n a hn =>
    match c, ts, e, rv with
    | .lst ys, [.int i, t], e, rv =>
      simp only [mutT] at e
      split at e
      · rename_i hl
        simp only [Option.some.injEq, Prod.mk.injEq] at e
        obtain ⟨rfl, rfl⟩ := e
        obtain ⟨z0, z, rfl, r0, rz⟩ := two_args rv rfl
        cases r0
        obtain ⟨vs, hp, rp⟩ := S.cellAt hn hm
        refine mt_insert pins s sg H _ _ v us Q I rx rxs ⟨a, vs, i, z, rfl, rfl, hp, by rw [LINE_eq, ← rp.length]; exact hl.1, hl.2.1, by have := hl.2.2; omega, ?_⟩
        refine q w _ .refl (S.write hn ⟨_, hm, by simp⟩ ⟨_, upd_same, ?_⟩) _ .non
        rw [List.append_assoc]
        exact (rp.take _).append (.cons rz (rp.drop _))
      · cases e
    | .lst ys, [], e, _ => simp [mutT] at e
    | .lst ys, [_], e, _ => simp [mutT] at e
    | .lst ys, _ :: _ :: _ :: _, e, _ => simp [mutT] at e
    | .lst ys, [.non, _], e, _ => simp [mutT] at e
    | .lst ys, [.bl _, _], e, _ => simp [mutT] at e
    | .lst ys, [.str _, _], e, _ => simp [mutT] at e
    | .lst ys, [.lst _, _], e, _ => simp [mutT] at e
    | .lst ys, [.tup _, _], e, _ => simp [mutT] at e
    | .lst ys, [.dct _ _, _], e, _ => simp [mutT] at e
    | .lst ys, [.set _, _], e, _ => simp [mutT] at e
    | .lst ys, [.obj _, _], e, _ => simp [mutT] at e
    | .lst ys, [.exc _ _, _], e, _ => simp [mutT] at e
    | .lst ys, [.scr _, _], e, _ => simp [mutT] at e
    | .dead, _, e, _ => simp [mutT] at e
    | .dct _ _, _, e, _ => simp [mutT] at e
    | .ins _ _, _, e, _ => simp [mutT] at e
end
end MP
end

section
set_option Elab.async false
set_option linter.all false
set_option maxRecDepth 100000
/-! MS1: sorted. -/
namespace MP
open PySem PySem.Spec PyProof.Rows L2
theorem atLt_eq : atLt = itemLt := by
  funext a b
  cases a <;> cases b <;> rfl
theorem lexA_eq : ∀ a b : List At, lexA a b = lexLt itemOrd a b
  | [], [] => rfl
  | [], _ :: _ => rfl
  | _ :: _, [] => rfl
  | x :: r, y :: t => by
    show (atLt x y || (!atLt y x && lexA r t)) = (itemLt x y || (!itemLt y x && lexLt itemOrd r t))
    rw [atLt_eq, lexA_eq r t]
theorem toNat_inj {a b : Nm} (h : a.map Char.toNat = b.map Char.toNat) : a = b := map_toNat_inj h
theorem keyF_inj {x y : T} {k : At} (hx : keyF x = some k) (hy : keyF y = some k) : x = y := by
  cases x <;> simp [keyF] at hx <;> cases y <;> simp [keyF] at hy <;> subst hx
  · cases hy; rfl
  · cases hy
  · cases hy
  · rw [toNat_inj (Sum.inr.inj hy)]
theorem keyFs_inj : ∀ {xs ys : List T} {k : List At}, keyFs xs = some k → keyFs ys = some k → xs = ys
  | [], [], _, _, _ => rfl
  | [], y :: ys, k, hx, hy => by
    simp only [keyFs, Option.some.injEq] at hx; subst hx
    obtain ⟨a, _, h2⟩ := Option.bind_eq_some_iff.mp hy
    obtain ⟨l, _, h3⟩ := Option.map_eq_some_iff.mp h2
    cases h3
  | x :: xs, [], k, hx, hy => by
    simp only [keyFs, Option.some.injEq] at hy; subst hy
    obtain ⟨a, _, h2⟩ := Option.bind_eq_some_iff.mp hx
    obtain ⟨l, _, h3⟩ := Option.map_eq_some_iff.mp h2
    cases h3
  | x :: xs, y :: ys, k, hx, hy => by
    obtain ⟨a, h1, h2⟩ := Option.bind_eq_some_iff.mp hx
    obtain ⟨l, h3, h4⟩ := Option.map_eq_some_iff.mp h2
    obtain ⟨b, g1, g2⟩ := Option.bind_eq_some_iff.mp hy
    obtain ⟨l', g3, g4⟩ := Option.map_eq_some_iff.mp g2
    subst h4; cases g4
    rw [keyF_inj h1 g1, keyFs_inj h3 g3]
theorem colFs_key : ∀ {xs : List T} {c : List Bool}, colFs xs = some c → ∃ k, keyFs xs = some k ∧ k.length = c.length
  | [], c, h => by simp [colFs] at h; subst h; exact ⟨[], rfl, rfl⟩
  | x :: xs, c, h => by
    obtain ⟨a, h1, h2⟩ := Option.bind_eq_some_iff.mp h
    obtain ⟨l, h3, h4⟩ := Option.map_eq_some_iff.mp h2
    obtain ⟨k, h5, h6⟩ := colFs_key h3
    subst h4
    cases x <;> simp [colF] at h1
    · rename_i i
      exact ⟨.inl i :: k, by simp [keyFs, keyF, h5], by simp [h6]⟩
    · rename_i s
      exact ⟨.inr (s.map Char.toNat) :: k, by simp [keyFs, keyF, h5], by simp [h6]⟩
theorem keyT_inj {x y : T} {k : Nat × List Bool} (hx : sortKd x = some k) (hy : sortKd y = some k) (h : keyT x = keyT y) : x = y := by
  have tup : ∀ (xs ys : List T), sortKd (.tup xs) = some k → sortKd (.tup ys) = some k → keyT (.tup xs) = keyT (.tup ys) → T.tup xs = T.tup ys := by
    intro xs ys h1 h2 e
    match xs, ys, h1, h2, e with
    | [], _, h1, _, _ => cases h1
    | _ :: _, [], _, h2, _ => cases h2
    | a :: xs, b :: ys, h1, h2, e =>
      obtain ⟨c, c1, _⟩ := Option.map_eq_some_iff.mp h1
      obtain ⟨d, d1, _⟩ := Option.map_eq_some_iff.mp h2
      obtain ⟨k1, e1, _⟩ := colFs_key c1
      obtain ⟨k2, e2, _⟩ := colFs_key d1
      simp only [keyT, e1, e2, Option.getD_some] at e
      subst e
      rw [keyFs_inj e1 e2]
  cases x with
  | int i =>
    cases y with
    | int j => simp [keyT] at h; rw [h]
    | str s => simp [sortKd] at hx hy; rw [← hx] at hy; cases hy
    | tup ys => simp [sortKd] at hx; subst hx; cases ys <;> simp [sortKd] at hy
    | _ => simp [sortKd] at hy
  | str s =>
    cases y with
    | int j => simp [sortKd] at hx hy; rw [← hx] at hy; cases hy
    | str t =>
      simp only [keyT, List.cons.injEq, Sum.inr.injEq, and_true] at h
      rw [toNat_inj h]
    | tup ys => simp [sortKd] at hx; subst hx; cases ys <;> simp [sortKd] at hy
    | _ => simp [sortKd] at hy
  | tup xs =>
    cases y with
    | int j => simp [sortKd] at hy; subst hy; cases xs <;> simp [sortKd] at hx
    | str s => simp [sortKd] at hy; subst hy; cases xs <;> simp [sortKd] at hx
    | tup ys => exact tup xs ys hx hy h
    | _ => simp [sortKd] at hy
  | _ => simp [sortKd] at hx
/-! ### the order -/
theorem ltT_irrefl (x : T) : ltT x x = false := by unfold ltT; rw [lexA_eq]; exact lex_irrefl _
theorem ltT_trans {x y z : T} (h1 : ltT x y = true) (h2 : ltT y z = true) : ltT x z = true := by
  unfold ltT at *; rw [lexA_eq] at *; exact lex_trans _ _ _ h1 h2
theorem ltT_neg {x y z : T} (h : ltT x z = true) : ltT x y = true ∨ ltT y z = true := by
  unfold ltT at *; rw [lexA_eq] at *; rw [lexA_eq]; exact lex_negTrans _ _ _ h
theorem ltT_total {x y : T} (h1 : ltT x y = false) (h2 : ltT y x = false) : keyT x = keyT y := by
  unfold ltT at *; rw [lexA_eq] at *; exact lex_total _ _ h1 h2
theorem ltT_asym {x y : T} (h : ltT x y = true) : ltT y x = false := by
  cases q : ltT y x with
  | false => rfl
  | true => exact absurd ((ltT_irrefl x).symm.trans (ltT_trans h q)) (by decide)
/-- not after -/
def leT (x y : T) : Prop := ltT y x = false
theorem leT_trans {x y z : T} (h1 : leT x y) (h2 : leT y z) : leT x z := by
  unfold leT at *
  cases q : ltT z x with
  | false => rfl
  | true => rcases ltT_neg (y := y) q with p | p
            · rw [h2] at p; cases p
            · rw [h1] at p; cases p
theorem insT_perm (x : T) : ∀ ys : List T, (insT x ys).Perm (x :: ys)
  | [] => .refl _
  | y :: r => by
    unfold insT
    split
    · exact ((insT_perm x r).cons y).trans (List.Perm.swap x y r)
    · exact .refl _
theorem sortT_perm : ∀ xs : List T, (sortT xs).Perm xs
  | [] => .refl _
  | x :: r => (insT_perm x (sortT r)).trans ((sortT_perm r).cons x)
theorem insT_sorted (x : T) : ∀ {ys : List T}, ys.Pairwise leT → (insT x ys).Pairwise leT
  | [], _ => List.pairwise_singleton _ _
  | y :: r, h => by
    obtain ⟨h1, h2⟩ := List.pairwise_cons.mp h
    unfold insT
    split
    · rename_i q
      refine List.pairwise_cons.mpr ⟨fun z hz => ?_, insT_sorted x h2⟩
      rcases List.mem_cons.mp ((insT_perm x r).mem_iff.mp hz) with rfl | hz
      · exact ltT_asym q
      · exact h1 z hz
    · rename_i q
      have q' : leT x y := by unfold leT; simpa using q
      refine List.pairwise_cons.mpr ⟨fun z hz => ?_, h⟩
      rcases List.mem_cons.mp hz with rfl | hz
      · exact q'
      · exact leT_trans q' (h1 z hz)
theorem sortT_sorted : ∀ xs : List T, (sortT xs).Pairwise leT
  | [] => List.Pairwise.nil
  | x :: r => insT_sorted x (sortT_sorted r)
/-- one such list -/
theorem sort_one {xs ys : List T} {k : Nat × List Bool} (hk : ∀ x ∈ xs, sortKd x = some k) (p : ys.Perm xs) (h : ys.Pairwise leT) : ys = sortT xs := by
  refine List.Perm.eq_of_pairwise (le := leT) (fun a b ha hb h1 h2 => ?_) h (sortT_sorted xs) (p.trans (sortT_perm xs).symm)
  exact keyT_inj (hk a (p.mem_iff.mp ha)) (hk b ((sortT_perm xs).mem_iff.mp hb)) (ltT_total h2 h1)
theorem sortOk_kd {xs : List T} (h : sortOk xs = true) : xs = [] ∨ ∃ k, (∀ x ∈ xs, sortKd x = some k) ∧ (k.1 = 1 → xs.length < 64) := by
  match xs, h with
  | [], _ => exact .inl rfl
  | x :: r, h =>
    unfold sortOk at h
    simp only [Bool.and_eq_true] at h
    obtain ⟨h1, h2⟩ := h
    split at h1
    · rename_i k hk
      refine .inr ⟨k, fun y hy => ?_, fun e => ?_⟩
      · rcases List.mem_cons.mp hy with rfl | hy
        · exact hk
        · simpa using List.all_eq_true.mp h1 y hy
      · cases x with
        | str s => simpa using h2
        | int i => simp [sortKd] at hk; subst hk; cases e
        | tup ys =>
          cases ys with
          | nil => simp [sortKd] at hk
          | cons a b =>
            obtain ⟨c, _, q⟩ := Option.map_eq_some_iff.mp hk
            subst q; cases e
        | _ => simp [sortKd] at hk
    · cases h1
theorem kd_int {x : T} {c : List Bool} (h : sortKd x = some (0, c)) : ∃ i, x = .int i := by
  cases x with
  | int i => exact ⟨i, rfl⟩
  | tup ys =>
    cases ys with
    | nil => simp [sortKd] at h
    | cons a b => obtain ⟨c, _, q⟩ := Option.map_eq_some_iff.mp h; cases q
  | _ => simp [sortKd] at h
theorem kd_str {x : T} {c : List Bool} (h : sortKd x = some (1, c)) : ∃ s, x = .str s := by
  cases x with
  | str s => exact ⟨s, rfl⟩
  | tup ys =>
    cases ys with
    | nil => simp [sortKd] at h
    | cons a b => obtain ⟨c, _, q⟩ := Option.map_eq_some_iff.mp h; cases q
  | _ => simp [sortKd] at h
theorem kd_tup {x : T} {n : Nat} {c : List Bool} (h : sortKd x = some (n + 2, c)) : ∃ a r, x = .tup (a :: r) ∧ colFs (a :: r) = some c := by
  cases x with
  | tup ys =>
    cases ys with
    | nil => simp [sortKd] at h
    | cons a b => obtain ⟨c', e, q⟩ := Option.map_eq_some_iff.mp h; cases q; exact ⟨a, b, rfl, e⟩
  | _ => simp [sortKd] at h
/-! ### by values -/
section
variable {K : Kx} {w : Wd} {m : Store} {H : Hp}
theorem reps_perm {vs vs' : List V} (p : vs'.Perm vs) : ∀ {ts : List T}, Reps K w ts vs → ∃ ts', ts'.Perm ts ∧ Reps K w ts' vs' := by
  induction p with
  | nil => intro ts r; exact ⟨ts, .refl _, r⟩
  | cons x p ih =>
    intro ts r
    cases r with
    | cons h r =>
      obtain ⟨ts', q, r'⟩ := ih r
      exact ⟨_ :: ts', q.cons _, .cons h r'⟩
  | swap x y l =>
    intro ts r
    cases r with
    | cons h r =>
      cases r with
      | cons h' r => exact ⟨_, List.Perm.swap _ _ _, .cons h' (.cons h r)⟩
  | trans p q ih1 ih2 =>
    intro ts r
    obtain ⟨ts1, q1, r1⟩ := ih2 r
    obtain ⟨ts2, q2, r2⟩ := ih1 r1
    exact ⟨ts2, q2.trans q1, r2⟩
theorem intsOf_kd {c : List Bool} : ∀ {ts : List T}, (∀ x ∈ ts, sortKd x = some (0, c)) → ∃ l : List Int, ts = l.map T.int
  | [], _ => ⟨[], rfl⟩
  | x :: r, h => by
    obtain ⟨i, rfl⟩ := kd_int (h _ (List.mem_cons_self ..))
    obtain ⟨l, rfl⟩ := intsOf_kd fun y hy => h y (List.mem_cons_of_mem _ hy)
    exact ⟨i :: l, rfl⟩
theorem strsOf_kd {c : List Bool} : ∀ {ts : List T}, (∀ x ∈ ts, sortKd x = some (1, c)) → ∃ l : List Nm, ts = l.map T.str
  | [], _ => ⟨[], rfl⟩
  | x :: r, h => by
    obtain ⟨i, rfl⟩ := kd_str (h _ (List.mem_cons_self ..))
    obtain ⟨l, rfl⟩ := strsOf_kd fun y hy => h y (List.mem_cons_of_mem _ hy)
    exact ⟨i :: l, rfl⟩
theorem reps_ints : ∀ {l : List Int} {vs : List V}, Reps K w (l.map T.int) vs → vs = l.map V.int
  | [], _, .nil => rfl
  | i :: l, _, .cons h r => by cases h; rw [reps_ints r]; rfl
theorem reps_strs : ∀ {l : List Nm} {vs : List V}, Reps K w (l.map T.str) vs → vs = (l.map toStr).map V.str
  | [], _, .nil => rfl
  | i :: l, _, .cons h r => by cases h; rw [reps_strs r]; rfl
theorem strs_reps : ∀ l : List Nm, Reps K w (l.map T.str) ((l.map toStr).map V.str)
  | [] => .nil
  | i :: l => .cons (.str i) (strs_reps l)
theorem cps_toStr (s : Nm) : (toStr s).cps.toList = s.map Char.toNat := rfl
theorem rising_le : ∀ {r : List Nm} {p : Nm}, PyProof.Rows.risingS (toStr p) (r.map toStr) = true → ((p :: r).map T.str).Pairwise leT
  | [], p, _ => List.pairwise_singleton _ _
  | x :: r, p, h => by
    have h' : (!ltCps (toStr x).cps.toList (toStr p).cps.toList && PyProof.Rows.risingS (toStr x) (r.map toStr)) = true := h
    rw [Bool.and_eq_true] at h'
    have ih := rising_le h'.2
    have hx : leT (.str p) (.str x) := by
      have e : ltCps (toStr x).cps.toList (toStr p).cps.toList = false := by simpa using h'.1
      rw [ltCps_eq] at e
      show lexA [.inr (x.map Char.toNat)] [.inr (p.map Char.toNat)] = false
      show (decide (x.map Char.toNat < p.map Char.toNat) || (!(decide (p.map Char.toNat < x.map Char.toNat)) && false)) = false
      rw [Bool.and_false, Bool.or_false]
      exact e
    refine List.pairwise_cons.mpr ⟨fun z hz => ?_, ih⟩
    rcases List.mem_cons.mp hz with rfl | hz
    · exact hx
    · exact leT_trans hx ((List.pairwise_cons.mp ih).1 z hz)
def shapeOf (c : List Bool) (i : Nat) : Bool := (c[i]?).getD false
theorem items_key (sh : Nat → Bool) : ∀ {ts : List T} {vs : List V} {us : List Value} {c : List Bool} {k : List At} (i : Nat), Reps K w ts vs → Vals vs us → colFs ts = some c → keyFs ts = some k → (∀ j, j < c.length → sh (i + j) = (c[j]?).getD false) → tupItems sh i us = some k
  | [], _, _, c, k, i, .nil, .nil, hc, hk, _ => by simp [keyFs] at hk; subst hk; rfl
  | t :: ts, _, _, c, k, i, .cons h r, .cons v rv, hc, hk, hs => by
    obtain ⟨a, a1, a2⟩ := Option.bind_eq_some_iff.mp hc
    obtain ⟨c', a3, a4⟩ := Option.map_eq_some_iff.mp a2
    obtain ⟨b, b1, b2⟩ := Option.bind_eq_some_iff.mp hk
    obtain ⟨k', b3, b4⟩ := Option.map_eq_some_iff.mp b2
    subst a4; subst b4
    have h0 : sh i = a := by
      have := hs 0 (by simp)
      simpa using this
    have ih := items_key sh (i + 1) r rv a3 b3 fun j hj => by
      have := hs (j + 1) (by simp; omega)
      rw [show i + 1 + j = i + (j + 1) by omega, this]
      simp
    cases t with
    | int n =>
      simp [colF] at a1; simp [keyF] at b1; subst b1; subst a1
      cases h; obtain ⟨t, rfl⟩ := v
      show (if sh i = true then none else (tupItems sh (i + 1) _).map _) = _
      rw [h0, ih]; rfl
    | str s =>
      simp [colF] at a1; simp [keyF] at b1; subst b1; subst a1
      cases h; obtain ⟨t, rfl⟩ := v
      show (if sh i = true then (tupItems sh (i + 1) _).map _ else none) = _
      rw [h0, ih]; rfl
    | _ => simp [colF] at a1
end
section
variable {X : Cx} {hx : Option (Addr × Nat × List T)}
/-- what the tuple at an address is sorted by -/
def kA (h : Heap) (c : List Bool) : V → List At
  | .ref a => (tupKey h (shapeOf c) (.ref a)).getD []
  | _ => []
theorem swo_kA (h : Heap) (c : List Bool) : SrtO.Swo fun v u => lexLt itemOrd (kA h c (backV v)) (kA h c (backV u)) := by
  refine ⟨fun x y q => ?_, fun x y z h1 h2 => ?_⟩
  · cases p : lexLt itemOrd (kA h c (backV y)) (kA h c (backV x)) with
    | false => rfl
    | true => exact absurd ((lex_irrefl (O := itemOrd) _).symm.trans (lex_trans _ _ _ q p)) (by decide)
  · cases p : lexLt itemOrd (kA h c (backV z)) (kA h c (backV x)) with
    | false => rfl
    | true =>
      rcases lex_negTrans (O := itemOrd) _ (kA h c (backV y)) _ p with q | q
      · rw [h2] at q; cases q
      · rw [h1] at q; cases q
/-- the tuple there, by its key -/
structure IsTup (h : Heap) (c : List Bool) (v : Value) (k : List At) : Prop where
  key : tupKey h (shapeOf c) v = some k
  tup : ∃ f, TupOf h (shapeOf c) v f
theorem IsTup.keeps {h h' : Heap} {c : List Bool} {v : Value} {k : List At} (t : IsTup h c v k) (kp : ∀ b o, h.get? b = some o → o.cls = .type "tuple" → h'.get? b = some o) : IsTup h' c v k := by
  obtain ⟨k1, f, a, o, xs, n, rfl, ho, hc, hd, r⟩ := t
  have ho' := kp a o ho hc
  refine ⟨?_, f, a, o, xs, n, rfl, ho', hc, hd, r⟩
  rw [← k1]
  show (match h'.get? a with | some o => _ | none => none) = (match h.get? a with | some o => _ | none => none)
  rw [ho, ho']
theorem tups_sortable {prog : Program} {w : World} {A : Around} {s : Shared} {c : List Bool} {a : Addr} {vs : List Value} {h0 : Heap} (hv : 0 < vs.length) (ht : ∀ v ∈ vs, IsTup s.heap c v (kA h0 c (backV v))) (ha : ∀ o, s.heap.get? a = some o → o.cls ≠ .type "tuple") :
    SrtO.SortableO prog w A s a vs fun v u => lexLt itemOrd (kA h0 c (backV v)) (kA h0 c (backV u)) := by
  intro h' keep
  have ht' : ∀ v ∈ vs, IsTup h' c v (kA h0 c (backV v)) := fun v hm => (ht v hm).keeps fun b o e q => keep b o (fun z => by subst z; exact ha o e q) e
  have fs : ∀ l : List Value, (∀ v ∈ l, IsTup h' c v (kA h0 c (backV v))) → ∃ fs, TupsOf h' (shapeOf c) l fs ∧ fs.length = l.length := by
    intro l
    induction l with
    | nil => intro _; exact ⟨[], .nil, rfl⟩
    | cons v l ih =>
      intro hl
      obtain ⟨fs, t1, t2⟩ := ih fun x hx => hl x (List.mem_cons_of_mem _ hx)
      obtain ⟨f, tf⟩ := (hl v (List.mem_cons_self ..)).tup
      exact ⟨f :: fs, .cons tf t1, by simp [t2]⟩
  obtain ⟨fs, t1, t2⟩ := fs vs ht'
  refine ⟨PyProof.Rows.tuples' true, fun Q E hq => tup_kind (shape := shapeOf c) (by rw [t2]; exact hv) t1 hq, fun p q hp hq => ?_⟩
  exact tup_ltAt (s := { s with heap := h' }) (shape := shapeOf c) true A _ p.1 q.1 _ _ (ht' _ hp).key (ht' _ hq).key ⟨rfl, rfl⟩
theorem kd_back {c : List Bool} {n : Nat} {x : T} {v : V} {K : Kx} {w : Wd} (h : sortKd x = some (n + 2, c)) (r : Rep K w x v) : ∃ a, v = .ref a := by
  obtain ⟨a, l, rfl, _⟩ := kd_tup h
  cases r
  exact ⟨_, rfl⟩
theorem sorted_tups {c : List Bool} {n : Nat} {pins : List (Addr × Obj)} {s : Shared} {sg : L2.St} {H : Hp} {us : List Value} {Q : VK} {p : Addr} {vs : List V} {ts : List T} {w : Wd} {m : Store} (I : L2.Inv X pins sg H s) (r : Vals [V.ref p] us) (S : Sim (X.kx hx) w m H) (hp : H p = some (.lst vs)) (rp : Reps (X.kx hx) w ts vs)
    (hk : ∀ x ∈ ts, sortKd x = some (n + 2, c)) (q : okV (X.kx hx) w Q (.lst (sortT ts)) m) : wpAny (model X.prog X.w) X.A (call (.builtin "sorted") us) (EP X pins sg Q) X.xe s := by
  obtain ⟨its, rv, hl, hz⟩ := I.list (show SqL X.K H p vs from .of hp)
  obtain ⟨u, rfl, ru⟩ := vals1 r
  obtain rfl : u = Value.ref p := ru
  have allref : ∀ (ts : List T) (vs : List V), Reps (X.kx hx) w ts vs → (∀ x ∈ ts, sortKd x = some (n + 2, c)) → ∀ x ∈ vs, ∃ a, x = V.ref a := by
    intro ts vs r
    induction ts generalizing vs with
    | nil => cases r; intro _ x hx; cases hx
    | cons t ts ih =>
      cases r with
      | cons h r =>
        intro hk x hx
        rcases List.mem_cons.mp hx with rfl | hx
        · exact kd_back (hk _ (List.mem_cons_self ..)) h
        · exact ih _ r (fun y hy => hk y (List.mem_cons_of_mem _ hy)) x hx
  obtain ⟨e1, e2⟩ := refs_back rv (allref ts vs rp hk)
  -- each one's key
  have one : ∀ (x : T) (a : Addr), sortKd x = some (n + 2, c) → Rep (X.kx hx) w x (.ref a) → IsTup s.heap c (.ref a) (keyT x) := by
    intro x a hx r
    obtain ⟨y, l, rfl, hc⟩ := kd_tup hx
    obtain ⟨k, k1, _⟩ := colFs_key hc
    cases r with
    | @tup _ ws _ hz rw_ =>
      obtain ⟨_, its, rvs, o, ho, hcl, n', hd⟩ := I.hok _ _ (S.z _ _ hz)
      have ki : tupItems (shapeOf c) 0 its = some k := items_key (shapeOf c) 0 rw_ rvs hc k1 fun j _ => by rw [Nat.zero_add]; rfl
      refine ⟨?_, ?_⟩
      · show (match s.heap.get? a with | some o => (match o.data with | .seq xs _ => tupItems (shapeOf c) 0 xs.toList | _ => none) | none => none) = _
        rw [ho]
        simp only [hd]
        rw [show keyT (.tup (y :: l)) = k by simp [keyT, k1]]
        exact ki
      · cases rw_ with
        | cons h1 r1 =>
          cases rvs with
          | cons rf rr =>
            refine ⟨_, a, o, _, n', rfl, ho, hcl, hd, rfl, fun z => ?_, fun z => ?_⟩
            · obtain ⟨b, b1, b2⟩ := Option.bind_eq_some_iff.mp hc
              obtain ⟨c', b3, b4⟩ := Option.map_eq_some_iff.mp b2
              subst b4
              have : b = false := z
              subst this
              cases y <;> simp [colF] at b1
              cases h1; obtain ⟨t, rfl⟩ := rf; exact ⟨_, _, rfl⟩
            · obtain ⟨b, b1, b2⟩ := Option.bind_eq_some_iff.mp hc
              obtain ⟨c', b3, b4⟩ := Option.map_eq_some_iff.mp b2
              subst b4
              have : b = true := z
              subst this
              cases y <;> simp [colF] at b1
              cases h1; obtain ⟨t, rfl⟩ := rf; exact ⟨_, _, rfl⟩
  have keys : ∀ (ts : List T) (vs : List V), Reps (X.kx hx) w ts vs → (∀ x ∈ ts, sortKd x = some (n + 2, c)) → vs.map (kA s.heap c) = ts.map keyT := by
    intro ts vs r
    induction ts generalizing vs with
    | nil => cases r; intro _; rfl
    | cons t ts ih =>
      cases r with
      | cons h r =>
        intro hk
        rw [List.map_cons, List.map_cons, ih _ r fun y hy => hk y (List.mem_cons_of_mem _ hy)]
        obtain ⟨a, rfl⟩ := kd_back (hk _ (List.mem_cons_self ..)) h
        have k1 := (one t a (hk _ (List.mem_cons_self ..)) h).key
        rw [show kA s.heap c (.ref a) = keyT t by show (tupKey s.heap (shapeOf c) (.ref a)).getD [] = _; rw [k1]; rfl]
  have memOf : ∀ (ts : List T) (vs : List V), Reps (X.kx hx) w ts vs → ∀ v ∈ vs, ∃ t ∈ ts, Rep (X.kx hx) w t v := by
    intro ts vs r
    induction ts generalizing vs with
    | nil => cases r; intro v hv; cases hv
    | cons t ts ih =>
      cases r with
      | cons h r =>
        intro v hv
        rcases List.mem_cons.mp hv with rfl | hv
        · exact ⟨t, List.mem_cons_self .., h⟩
        · obtain ⟨t', h1, h2⟩ := ih _ r v hv
          exact ⟨t', List.mem_cons_of_mem _ h1, h2⟩
  have ht : ∀ v ∈ its, IsTup s.heap c v (kA s.heap c (backV v)) := by
    intro v hv
    obtain ⟨a, rfl⟩ := e2 v hv
    obtain ⟨t, t1, t2⟩ := memOf ts vs rp (.ref a) (by rw [e1]; exact List.mem_map.mpr ⟨_, hv, rfl⟩)
    have k1 := one t a (hk t t1) t2
    have : kA s.heap c (backV (.ref a)) = keyT t := by show (tupKey s.heap (shapeOf c) (.ref a)).getD [] = _; rw [k1.key]; rfl
    rw [this]; exact k1
  refine SrtO.sorted_ord (swo_kA s.heap c) hl.isList (by rw [← rv.length]; exact hz) (fun h2 h₁ a ha kk => ?_) fun out h1 h2 => ?_
  · refine tups_sortable (s := { s with heap := h₁ }) (h0 := s.heap) (by omega) (fun v hm => (ht v hm).keeps fun b o e _ => (kk b o e).2) fun o e => ?_
    have e' : some o = some (seqObj "list" its.toArray 0) := e.symm.trans ha
    cases e'
    intro c
    exact absurd (Value.type.inj c) (by decide)
  · have h3 : ∀ u ∈ out, ∃ a, u = Value.ref a := fun u hu => e2 u (h2.perm.mem_iff.mp hu)
    obtain ⟨ep, he'⟩ := PyProof.Rows.sortedAll_at s.heap its out.toArray
    have pm : (out.map backV).Perm vs := by rw [e1]; exact h2.perm.map backV
    have hlen : (out.map backV).length ≤ sizeLine := by rw [pm.length_eq]; exact hz
    obtain ⟨ts', tp, rp'⟩ := reps_perm pm rp
    have hk' : ∀ x ∈ ts', sortKd x = some (n + 2, c) := fun x hx => hk x (tp.mem_iff.mp hx)
    have kk := keys ts' _ rp' hk'
    have so : ts'.Pairwise leT := by
      have z : ((out.map backV).map (kA s.heap c)).Pairwise (fun x y => lexLt itemOrd y x = false) := by
        rw [List.pairwise_map, List.pairwise_map]; exact h1
      rw [kk, List.pairwise_map] at z
      refine z.imp fun {x y} q => ?_
      unfold leT ltT
      rw [lexA_eq]; exact q
    have es : ts' = sortT ts := sort_one hk tp so
    have hn : H (s.heap.objs.size + 1) = none := I.hok.fresh (Nat.le_succ _)
    refine ⟨.ref _, upd H (s.heap.objs.size + 1) (.lst (out.map backV)), I.laid (t' := s.toks) (fun _ _ => PyProof.Rows.sortedAll_old) (Nat.le_succ _) ⟨hlen, out, ep, vals_back h3, he'⟩, rfl, ?_⟩
    obtain ⟨S', le⟩ := S.newZ hn (.lst (out.map backV))
    refine q _ _ le S' _ (.lst upd_same ?_)
    rw [← es]; exact rp'.mono le
theorem toStr_list : ∀ zs : List Str, (∀ z ∈ zs, ∃ n : Nm, z = toStr n) → ∃ l : List Nm, zs = l.map toStr
  | [], _ => ⟨[], rfl⟩
  | z :: zs, h => by
    obtain ⟨n, rfl⟩ := h _ (List.mem_cons_self ..)
    obtain ⟨l, rfl⟩ := toStr_list zs fun y hy => h y (List.mem_cons_of_mem _ hy)
    exact ⟨n :: l, rfl⟩
theorem map_inj_list {α β : Type} {f : α → β} (hf : ∀ {a b : α}, f a = f b → a = b) : ∀ {l l' : List α}, l.map f = l'.map f → l = l'
  | [], [], _ => rfl
  | [], _ :: _, h => by cases h
  | _ :: _, [], h => by cases h
  | a :: l, b :: l', h => by
    rw [List.map_cons, List.map_cons, List.cons.injEq] at h
    rw [hf h.1, map_inj_list hf h.2]
theorem perm_lift {α β : Type} {f : α → β} {zs ws : List β} (p : zs.Perm ws) : ∀ {l : List α}, ws = l.map f → ∃ l' : List α, zs = l'.map f ∧ l'.Perm l := by
  induction p with
  | nil => intro l e; exact ⟨l, e, .refl _⟩
  | cons x p ih =>
    intro l e
    cases l with
    | nil => cases e
    | cons a l =>
      rw [List.map_cons, List.cons.injEq] at e
      obtain ⟨l', e', p'⟩ := ih e.2
      exact ⟨a :: l', by rw [List.map_cons, e', e.1], p'.cons a⟩
  | swap x y l0 =>
    intro l e
    match l, e with
    | a :: b :: l, e =>
      simp only [List.map_cons, List.cons.injEq] at e
      obtain ⟨e1, e2, e3⟩ := e
      exact ⟨b :: a :: l, by simp [e1, e2, e3], List.Perm.swap _ _ _⟩
  | trans p q ih1 ih2 =>
    intro l e
    obtain ⟨l1, e1, p1⟩ := ih2 e
    obtain ⟨l2, e2, p2⟩ := ih1 e1
    exact ⟨l2, e2, p2.trans p1⟩
theorem perm_of_map {α β : Type} {f : α → β} (hf : ∀ {a b : α}, f a = f b → a = b) {l l' : List α} (p : (l'.map f).Perm (l.map f)) : l'.Perm l := by
  obtain ⟨l2, e, p2⟩ := perm_lift p rfl
  rw [map_inj_list hf e]; exact p2
theorem sortedS_le : ∀ {l : List Nm}, sortedS (l.map toStr) = true → (l.map T.str).Pairwise leT
  | [], _ => List.Pairwise.nil
  | p :: r, h => rising_le h
theorem call_sorted_rep : CallR X (.builtin "sorted") (rBi (X.kx hx) .sorted) := by
  intro pins s sg H xs us Q I rx ⟨w, m, ts, r, S, rv, e, q⟩
  match ts, e, rv with
  | [], e, _ => simp [biT] at e
  | _ :: _ :: _, e, _ => simp [biT] at e
  | [t], e, rv =>
    obtain ⟨v, rfl, ra⟩ := one_arg rv rfl
    simp only [biT] at e
    split at e
    · rename_i ys hy
      split at e
      · rename_i ok
        simp only [Option.some.injEq] at e; subst e
        obtain ⟨p, vs, rfl, hp, rp⟩ := vwL_rep S ra hy
        have intC : ∀ l : List Int, ys = l.map T.int → wpAny (model X.prog X.w) X.A (call (.builtin "sorted") us) (EP X pins sg Q) X.xe s := by
          intro l el
          subst el
          have := reps_ints rp
          subst this
          refine cr_sortedI pins s sg H _ us Q I rx ⟨p, l, rfl, .of hp, fun ns' d h1 h2 hz => ?_⟩
          obtain ⟨S', le⟩ := S.newZ hz (.lst (ns'.map V.int))
          refine q _ _ le S' _ (.lst upd_same ?_)
          rw [← sort_one (k := (0, [])) (xs := l.map T.int) (ys := ns'.map T.int) (fun x hx => by obtain ⟨i, _, rfl⟩ := List.mem_map.mp hx; rfl) (h1.map _) (List.pairwise_map.mpr (h2.imp fun {a b} hab => ?_))]
          · exact ints_reps ns'
          · show (decide (b < a) || (!(decide (a < b)) && false)) = false
            rw [Bool.and_false, Bool.or_false]
            exact decide_eq_false (by omega)
        rcases sortOk_kd ok with rfl | ⟨k, hk, h64⟩
        · exact intC [] rfl
        · obtain ⟨kn, c⟩ := k
          match kn, hk, h64 with
          | 0, hk, _ =>
            obtain ⟨l, el⟩ := intsOf_kd hk
            exact intC l el
          | 1, hk, h64 =>
            obtain ⟨l, el⟩ := strsOf_kd hk
            subst el
            have := reps_strs rp
            subst this
            refine cr_sortedS pins s sg H _ us Q I rx ⟨p, l.map toStr, rfl, .of hp, by have := h64 rfl; rw [List.length_map] at this; rw [List.length_map]; exact this, fun zs d h1 h2 hz => ?_⟩
            obtain ⟨S', le⟩ := S.newZ hz (.lst (zs.map V.str))
            refine q _ _ le S' _ (.lst upd_same ?_)
            obtain ⟨l', rfl⟩ := toStr_list zs fun z hz => by
              obtain ⟨n, _, e⟩ := List.mem_map.mp (h1.mem_iff.mp hz)
              exact ⟨n, e.symm⟩
            have pp : l'.Perm l := by
              have : (l'.map toStr).Perm (l.map toStr) := h1
              exact perm_of_map toStr_inj this
            rw [← sort_one (k := (1, c)) (xs := l.map T.str) (ys := l'.map T.str) hk (pp.map _) (sortedS_le h2)]
            exact strs_reps l'
          | k + 2, hk, _ => exact sorted_tups I rx S hp rp hk q
      · cases e
    · cases e
end
end MP
end

section
set_option Elab.async false
set_option linter.all false
set_option maxRecDepth 100000
/-! MP6: expressions. -/
namespace MP
open PySem PySem.Spec PyProof.Rows L2

theorem PE.imp {X : Cx} {e : Expr} {t t' : TE} (h : PE X e t) (i : ∀ sg H Q, t' sg H Q → t sg H Q) : PE X e t' := ⟨fun pins s sg H Q I q => h.run pins s sg H Q I (i _ _ _ q)⟩
theorem PT.imp {X : Cx} {e : Expr} {t t' : TT} (h : PT X e t) (i : ∀ sg H Q, t' sg H Q → t sg H Q) : PT X e t' := ⟨fun pins s sg H Q I q => h.run pins s sg H Q I (i _ _ _ q)⟩
theorem PW.imp {X : Cx} {e : Expr} {t t' : TT} (h : PW X e t) (i : ∀ sg H Q, t' sg H Q → t sg H Q) : PW X e t' := ⟨fun wh pins s sg H Q I q => h.run wh pins s sg H Q I (i _ _ _ q)⟩
theorem PA.imp {X : Cx} {e : List Expr} {t t' : TA} (h : PA X e t) (i : ∀ sg H Q, t' sg H Q → t sg H Q) : PA X e t' := ⟨fun pos pins s sg H Q I q => h.run pos pins s sg H Q I (i _ _ _ q)⟩
theorem PS.imp {X : Cx} {e : Stmt} {t t' : TS} (h : PS X e t) (i : ∀ D sg H, t' D sg H → t D sg H) : PS X e t' := ⟨fun pins s sg H D I q => h.run pins s sg H D I (i _ _ _ q)⟩
theorem PSs.imp {X : Cx} {e : List Stmt} {t t' : TS} (h : PSs X e t) (i : ∀ D sg H, t' D sg H → t D sg H) : PSs X e t' := ⟨fun pins s sg H D I q => h.run pins s sg H D I (i _ _ _ q)⟩

section
variable {X : Cx} {hx : Option (Addr × Nat × List T)} {D : Sd} {W : WX} {pos : Pos}
abbrev JE (X : Cx) (hx : Option (Addr × Nat × List T)) (D : Sd) (W : WX) (m : E) (e : Expr) : Prop := PE X e (tE (X.kx hx) D W m)
abbrev JT (X : Cx) (hx : Option (Addr × Nat × List T)) (D : Sd) (W : WX) (m : E) (e : Expr) : Prop := PT X e (tT (X.kx hx) D W m)
abbrev JA (X : Cx) (hx : Option (Addr × Nat × List T)) (D : Sd) (W : WX) (m : EL) (e : List Expr) : Prop := PA X e (tA (X.kx hx) D W m)

/-- what isTrue does with most -/
def PlainT (X : Cx) (e : Expr) : Prop := ∀ whole, isTrue e X.env whole = (do let v ← whole; standAt e.pos; holding [v] (truthy v))
/-- a test by its value -/
theorem JT_of {m : E} {e : Expr} (h : JE X hx D W m e) (hp : PlainT X e) : JT X hx D W m e := by
  refine PT.imp (pt_truth h hp) fun sg H Q ⟨w, st, env, S, R, q⟩ => ?_
  refine ⟨w, st, env, S, R, Res.to_mono (Res.to_bind q) (fun t m' q w' H' le S' v r => ?_) fun _ _ _ q => q⟩
  obtain ⟨b, hb, q⟩ := Res.to_ofO q
  exact ⟨b, tru_rep S' r hb, q _ _ le S'⟩

theorem E_cst {t : T} {v : V} {e : Expr} (h : PE X e (tC v)) (r : ∀ K w, Rep K w t v) : JE X hx D W (.cst t) e :=
  PE.imp h fun sg H Q ⟨w, st, env, S, R, q⟩ => (show okV (X.kx hx) w Q t st from q).use S (r _ _)
theorem E_glo {x : Nat} {t : T} {v : V} {e : Expr} (h : PE X e (tC v)) (r : ∀ K w, Rep K w t v) : JE X hx D W (.glo x t) e :=
  PE.imp h fun sg H Q ⟨w, st, env, S, R, q⟩ => (show okV (X.kx hx) w Q t st from q).use S (r _ _)
theorem E_var {i : Nat} {e : Expr} (h : PE X e (tVar i)) : JE X hx D W (.var i) e := by
  refine PE.imp h fun sg H Q ⟨w, st, env, S, R, q⟩ => ?_
  obtain ⟨t, ht, q⟩ := Res.to_ofO (show (Res.ofO (env.get i) st).to _ _ from q)
  obtain ⟨v, hv, r⟩ := R i t ht
  exact ⟨v, hv, (show okV (X.kx hx) w Q t st from q).use S r⟩
/-- a wish that later worlds keep -/
def Later {α : Type} (p : Wd → α → Store → Prop) : Prop := ∀ w w' a m, w.le w' → p w a m → p w' a m
theorem later_okV {K : Kx} {Q : VK} : Later (fun w => okV K w Q) := fun _ _ _ _ le q => aft.mono q le
theorem later_okB {K : Kx} {Q : Bool → Hp → Prop} : Later (fun w => okB K w Q) := fun _ _ _ _ le q => aft.mono q le
theorem later_okL {K : Kx} {Q : List V → Hp → Prop} : Later (fun w => okL K w Q) := fun _ _ _ _ le q => aft.mono q le
theorem Later.to {α : Type} {K : Kx} {p : Wd → α → Store → Prop} {w w' : Wd} {r : Res α} {sg : L2.St} (l : Later p) (h : r.to (p w) (exV K D W w sg)) (le : w.le w') : r.to (p w') (exV K D W w' sg) :=
  Res.to_mono h (fun _ _ q => l _ _ _ _ le q) fun _ _ _ q => aft.mono q le
/-- two parts -/
theorem tE_two {α : Type} {K : Kx} {w : Wd} {m : Store} {H : Hp} {sg : L2.St} {env : Env} {p : Wd → α → Store → Prop} {a b : E} {f : T → T → Store → Res α} (l : Later p) (S : Sim K w m H) (R : EnvR K w env sg)
    (h : ((eval D.C a env m).bind fun x m => (eval D.C b env m).bind fun y m => f x y m).to (p w) (exV K D W w sg)) {P : V → V → Hp → Prop}
    (k : ∀ t u m' w' H' x y, w.le w' → Sim K w' m' H' → Rep K w' t x → Rep K w' u y → (f t u m').to (p w') (exV K D W w' sg) → P x y H') :
    tE K D W a sg H fun x H1 => tE K D W b sg H1 fun y H2 => P x y H2 :=
  tE_one S R h fun t m1 w1 H1 x le1 S1 r1 q1 => tE_one S1 (R.mono le1) (l.to q1 le1) fun u m2 w2 H2 y le2 S2 r2 q2 =>
    k t u m2 w2 H2 x y (le1.trans le2) S2 (r1.mono le2) r2 (l.to q2 le2)
theorem Res.bind_assoc {α β γ : Type} (r : Res α) (f : α → Store → Res β) (g : β → Store → Res γ) : (r.bind f).bind g = r.bind fun a m => (f a m).bind g := by cases r <;> rfl
theorem Res.map_truth (o : Option Bool) (m : Store) : ((Res.ofO (o.map T.bl) m).bind fun t m => Res.ofO (truth m t) m) = Res.ofO o m := by cases o <;> rfl
theorem test_cmp {C : Ctx} {o : Cop} {a b : E} {env : Env} {m : Store} : test C (.cmp o a b) env m = (eval C a env m).bind fun x m => (eval C b env m).bind fun y m => Res.ofO (cmpT m o x y) m := by
  show ((eval C a env m).bind fun x m => (eval C b env m).bind fun y m => Res.ofO ((cmpT m o x y).map T.bl) m).bind _ = _
  rw [Res.bind_assoc]
  congr 1; funext x m
  rw [Res.bind_assoc]
  congr 1; funext y m
  exact Res.map_truth _ _
theorem E_bin {o : Bop} {a b : E} {ea eb : Expr} (ha : JE X hx D W a ea) (hb : JE X hx D W b eb) : JE X hx D W (.bin o a b) (.BinOp ea (opOf o) eb pos) := by
  refine PE.imp (pe_op (op_bin (hx := hx) o) ha hb) fun sg H Q ⟨w, st, env, S, R, q⟩ => ?_
  refine tE_two later_okV S R q fun t u m' w' H' x y le S' r1 r2 q => ?_
  obtain ⟨r, hr, q⟩ := Res.to_ofO q
  exact ⟨w', m', t, u, r, S', r1, r2, hr, q⟩
theorem E_neg {a : E} {ea : Expr} (ha : JE X hx D W a ea) : JE X hx D W (.neg a) (.UnaryOp .USub ea pos) := by
  refine PE.imp (pe_un un_neg ha) fun sg H Q ⟨w, st, env, S, R, q⟩ => ?_
  refine tE_one S R q fun t m' w' H' v le S' r q => ?_
  cases r with
  | int i => exact ⟨i, rfl, okV.use (okV.mono (show okV (X.kx hx) w Q (.int (-i)) m' from q) le) S' (.int _)⟩
  | _ => exact (show False from q).elim
theorem E_cmp {o : Cop} {a b : E} {ea eb : Expr} (hu : X.A.units + 65 < cLine) (ha : JE X hx D W a ea) (hb : JE X hx D W b eb) (hm : behindInMarks (copOf o) eb = false) : JE X hx D W (.cmp o a b) (.Compare ea [copOf o] [eb] pos) := by
  refine PE.imp (pe_cmpR (op_cmp (hx := hx) o hu) ha hb hm) fun sg H Q ⟨w, st, env, S, R, q⟩ => ?_
  refine tE_two later_okV S R q fun t u m' w' H' x y le S' r1 r2 q => ?_
  obtain ⟨r, hr, q⟩ := Res.to_ofO q
  obtain ⟨b', hb', rfl⟩ := Option.map_eq_some_iff.mp hr
  exact ⟨w', m', t, u, b', S', r1, r2, hb', q⟩
theorem T_cmp {o : Cop} {a b : E} {ea eb : Expr} (hu : X.A.units + 65 < cLine) (ha : JE X hx D W a ea) (hb : JE X hx D W b eb) (hm : behindInMarks (copOf o) eb = false) : JT X hx D W (.cmp o a b) (.Compare ea [copOf o] [eb] pos) := by
  refine PT.imp (pt_cmpR (op_cmp (hx := hx) o hu) ha hb hm) fun sg H Q ⟨w, st, env, S, R, q⟩ => ?_
  rw [test_cmp] at q
  refine tE_two (p := fun w => okB (X.kx hx) w Q) later_okB S R q fun t u m' w' H' x y le S' r1 r2 q => ?_
  obtain ⟨r, hr, q⟩ := Res.to_ofO q
  refine ⟨w', m', t, u, r, S', r1, r2, hr, fun w2 H2 le2 S2 v rv => ?_⟩
  cases rv
  exact ⟨_, rfl, q _ _ le2 S2⟩
theorem test_chain {C : Ctx} {o p : Cop} {a b c : E} {env : Env} {m : Store} : test C (.chain o p a b c) env m = (eval C a env m).bind fun x m => (eval C b env m).bind fun y m => (Res.ofO (cmpT m o x y) m).bind fun r m =>
    if r then (eval C c env m).bind fun z m => Res.ofO (cmpT m p y z) m else .ok false m := by
  show ((eval C a env m).bind fun x m => (eval C b env m).bind fun y m => (Res.ofO (cmpT m o x y) m).bind fun r m => if r then (eval C c env m).bind fun z m => Res.ofO ((cmpT m p y z).map T.bl) m else .ok (T.bl false) m).bind _ = _
  rw [Res.bind_assoc]
  congr 1; funext x m
  rw [Res.bind_assoc]
  congr 1; funext y m
  rw [Res.bind_assoc]
  congr 1; funext r m
  cases r with
  | false => rfl
  | true =>
    simp only [if_true]
    rw [Res.bind_assoc]
    congr 1; funext z m
    exact Res.map_truth _ _
theorem E_chain {o p : Cop} {a b c : E} {ea eb ec : Expr} (hu : X.A.units + 65 < cLine) (ha : JE X hx D W a ea) (hb : JE X hx D W b eb) (hc : JE X hx D W c ec) (hm : lastMarks [copOf o, copOf p] [eb, ec] = false) :
    JE X hx D W (.chain o p a b c) (.Compare ea [copOf o, copOf p] [eb, ec] pos) := by
  refine PE.imp (pe_chain (op_cmp (hx := hx) o hu) (op_cmp (hx := hx) p hu) ha hb hc hm) fun sg H Q ⟨w, st, env, S, R, q⟩ => ?_
  refine tE_two later_okV S R q fun t u m' w' H' x y le S' r1 r2 q => ?_
  obtain ⟨r, hr, q⟩ := Res.to_ofO (Res.to_bind q)
  refine ⟨w', m', t, u, r, S', r1, r2, hr, fun w2 H2 le2 S2 v rv => ?_⟩
  cases rv
  refine ⟨r, rfl, ?_⟩
  cases r with
  | false => simp only [Bool.false_eq_true, if_false] at q ⊢; exact okV.use (okV.mono (show okV (X.kx hx) w' Q (.bl false) m' from q) le2) S2 (.bl false)
  | true =>
    simp only [if_true] at q ⊢
    refine tE_one S2 ((R.mono le).mono le2) (to_later q le2) fun z m3 w3 H3 v3 le3 S3 r3 q3 => ?_
    obtain ⟨r', hr', q3⟩ := Res.to_ofO q3
    obtain ⟨b', hb', rfl⟩ := Option.map_eq_some_iff.mp hr'
    exact ⟨w3, m3, u, z, b', S3, (r2.mono le2).mono le3, r3, hb', okV.mono q3 le3⟩
theorem T_chain {o p : Cop} {a b c : E} {ea eb ec : Expr} (hu : X.A.units + 65 < cLine) (ha : JE X hx D W a ea) (hb : JE X hx D W b eb) (hc : JE X hx D W c ec) (hm : lastMarks [copOf o, copOf p] [eb, ec] = false) :
    JT X hx D W (.chain o p a b c) (.Compare ea [copOf o, copOf p] [eb, ec] pos) := by
  refine PT.imp (pt_chain (op_cmp (hx := hx) o hu) (op_cmp (hx := hx) p hu) ha hb hc hm) fun sg H Q ⟨w, st, env, S, R, q⟩ => ?_
  rw [test_chain] at q
  refine tE_two (p := fun w => okB (X.kx hx) w Q) later_okB S R q fun t u m' w' H' x y le S' r1 r2 q => ?_
  obtain ⟨r, hr, q⟩ := Res.to_ofO (Res.to_bind q)
  refine ⟨w', m', t, u, r, S', r1, r2, hr, fun w2 H2 le2 S2 v rv => ?_⟩
  cases rv
  refine ⟨r, rfl, ?_⟩
  cases r with
  | false => simp only [Bool.false_eq_true, if_false] at q ⊢; exact ⟨false, rfl, (show okB (X.kx hx) w' Q false m' from q) _ _ le2 S2⟩
  | true =>
    simp only [if_true] at q ⊢
    refine tE_one S2 ((R.mono le).mono le2) (later_okB.to q le2) fun z m3 w3 H3 v3 le3 S3 r3 q3 => ?_
    obtain ⟨r', hr', q3⟩ := Res.to_ofO q3
    refine ⟨w3, m3, u, z, r', S3, (r2.mono le2).mono le3, r3, hr', fun w4 H4 le4 S4 v4 rv4 => ?_⟩
    cases rv4
    exact ⟨_, rfl, q3 _ _ (le3.trans le4) S4⟩
/-! and, or, not -/
variable {rest : List Expr}
theorem E_and {a b : E} {ea eb : Expr} (ha : JE X hx D W a ea) (hb : JE X hx D W b (.BoolOp .And (eb :: rest) pos)) : JE X hx D W (.and a b) (.BoolOp .And (ea :: eb :: rest) pos) := by
  refine PE.imp (pe_andT ha hb) fun sg H Q ⟨w, st, env, S, R, q⟩ => ?_
  refine tE_one S R q fun t m' w' H' v le S' r q => ?_
  obtain ⟨k, hk, q⟩ := Res.to_ofO (Res.to_bind q)
  refine ⟨k, tru_rep S' r hk, ?_⟩
  cases k with
  | true => simp only [if_true] at q ⊢; exact ⟨w', m', env, S', R.mono le, to_later q le⟩
  | false => simp only [Bool.false_eq_true, if_false] at q ⊢; exact okV.use (okV.mono (show okV (X.kx hx) w Q t m' from q) le) S' r
theorem E_or {a b : E} {ea eb : Expr} (ha : JE X hx D W a ea) (hb : JE X hx D W b (.BoolOp .Or (eb :: rest) pos)) : JE X hx D W (.or a b) (.BoolOp .Or (ea :: eb :: rest) pos) := by
  refine PE.imp (pe_orT ha hb) fun sg H Q ⟨w, st, env, S, R, q⟩ => ?_
  refine tE_one S R q fun t m' w' H' v le S' r q => ?_
  obtain ⟨k, hk, q⟩ := Res.to_ofO (Res.to_bind q)
  refine ⟨k, tru_rep S' r hk, ?_⟩
  cases k with
  | true => simp only [if_true] at q ⊢; exact okV.use (okV.mono (show okV (X.kx hx) w Q t m' from q) le) S' r
  | false => simp only [Bool.false_eq_true, if_false] at q ⊢; exact ⟨w', m', env, S', R.mono le, to_later q le⟩
theorem E_boolOne {a : E} {ea : Expr} {op : BoolOp} (ha : JE X hx D W a ea) : JE X hx D W a (.BoolOp op [ea] pos) := pe_one ha
abbrev JW (X : Cx) (hx : Option (Addr × Nat × List T)) (D : Sd) (W : WX) (m : E) (e : Expr) : Prop := PW X e (tT (X.kx hx) D W m)
theorem test_and {C : Ctx} {a b : E} {env : Env} {m : Store} : test C (.and a b) env m = (test C a env m).bind fun r m => if r then test C b env m else .ok false m := by
  show ((eval C a env m).bind fun x m => (Res.ofO (truth m x) m).bind fun r m => if r then eval C b env m else .ok x m).bind _ = ((eval C a env m).bind fun x m => Res.ofO (truth m x) m).bind _
  rw [Res.bind_assoc, Res.bind_assoc]
  congr 1; funext x m
  cases h : truth m x with
  | none => rfl
  | some r =>
    cases r with
    | true => rfl
    | false => simp [h]
theorem test_or {C : Ctx} {a b : E} {env : Env} {m : Store} : test C (.or a b) env m = (test C a env m).bind fun r m => if r then .ok true m else test C b env m := by
  show ((eval C a env m).bind fun x m => (Res.ofO (truth m x) m).bind fun r m => if r then .ok x m else eval C b env m).bind _ = ((eval C a env m).bind fun x m => Res.ofO (truth m x) m).bind _
  rw [Res.bind_assoc, Res.bind_assoc]
  congr 1; funext x m
  cases h : truth m x with
  | none => rfl
  | some r =>
    cases r with
    | true => simp [h]
    | false => rfl
theorem test_not {C : Ctx} {a : E} {env : Env} {m : Store} : test C (.not a) env m = (test C a env m).bind fun r m => .ok (!r) m := by
  show ((eval C a env m).bind fun x m => (Res.ofO (truth m x) m).bind fun r m => Res.ok (T.bl (!r)) m).bind _ = ((eval C a env m).bind fun x m => Res.ofO (truth m x) m).bind _
  rw [Res.bind_assoc, Res.bind_assoc]
  congr 1; funext x m
  cases h : truth m x <;> rfl
theorem tT_one {α : Type} {K : Kx} {w : Wd} {m : Store} {H : Hp} {sg : L2.St} {env : Env} {p : α → Store → Prop} {e : E} {f : Bool → Store → Res α} (S : Sim K w m H) (R : EnvR K w env sg) (h : ((test D.C e env m).bind f).to p (exV K D W w sg)) {P : Bool → Hp → Prop}
    (k : ∀ b m' w' H', w.le w' → Sim K w' m' H' → (f b m').to p (exV K D W w sg) → P b H') : tT K D W e sg H P :=
  ⟨w, m, env, S, R, Res.to_mono (Res.to_bind h) (fun t m' q w' H' le S' => k t m' w' H' le S' q) fun _ _ _ q => q⟩
theorem W_and {a b : E} {ea eb : Expr} (ha : JT X hx D W a ea) (hb : JW X hx D W b (.BoolOp .And (eb :: rest) pos)) : JW X hx D W (.and a b) (.BoolOp .And (ea :: eb :: rest) pos) := by
  refine PW.imp (pw_and ha hb) fun sg H Q ⟨w, st, env, S, R, q⟩ => ?_
  rw [test_and] at q
  refine tT_one S R q fun b m' w' H' le S' q => ?_
  cases b with
  | true => simp only [if_true] at q ⊢; exact ⟨w', m', env, S', R.mono le, to_laterB q le⟩
  | false => simp only [Bool.false_eq_true, if_false] at q ⊢; exact (show okB (X.kx hx) w Q false m' from q) _ _ le S'
theorem W_or {a b : E} {ea eb : Expr} (ha : JT X hx D W a ea) (hb : JW X hx D W b (.BoolOp .Or (eb :: rest) pos)) : JW X hx D W (.or a b) (.BoolOp .Or (ea :: eb :: rest) pos) := by
  refine PW.imp (pw_or ha hb) fun sg H Q ⟨w, st, env, S, R, q⟩ => ?_
  rw [test_or] at q
  refine tT_one S R q fun b m' w' H' le S' q => ?_
  cases b with
  | true => simp only [if_true] at q ⊢; exact (show okB (X.kx hx) w Q true m' from q) _ _ le S'
  | false => simp only [Bool.false_eq_true, if_false] at q ⊢; exact ⟨w', m', env, S', R.mono le, to_laterB q le⟩
theorem W_and1 {a : E} {ea : Expr} (ha : JT X hx D W a ea) : JW X hx D W a (.BoolOp .And [ea] pos) := pw_and1 ha
theorem W_or1 {a : E} {ea : Expr} (ha : JT X hx D W a ea) : JW X hx D W a (.BoolOp .Or [ea] pos) := pw_or1 ha
theorem E_not {a : E} {ea : Expr} (ha : JE X hx D W a ea) : JE X hx D W (.not a) (.UnaryOp .Not ea pos) := by
  refine PE.imp (pe_notT ha) fun sg H Q ⟨w, st, env, S, R, q⟩ => ?_
  refine tE_one S R q fun t m' w' H' v le S' r q => ?_
  obtain ⟨k, hk, q⟩ := Res.to_ofO (Res.to_bind q)
  exact ⟨k, tru_rep S' r hk, okV.use (okV.mono (show okV (X.kx hx) w Q (.bl (!k)) m' from q) le) S' (.bl _)⟩
theorem T_not {a : E} {ea : Expr} (ha : JT X hx D W a ea) : JT X hx D W (.not a) (.UnaryOp .Not ea pos) := by
  refine PT.imp (pt_not ha) fun sg H Q ⟨w, st, env, S, R, q⟩ => ?_
  rw [test_not] at q
  exact tT_one S R q fun b m' w' H' le S' q => (show okB (X.kx hx) w Q (!b) m' from q) _ _ le S'
theorem E_ite {c a b : E} {ec ea eb : Expr} (hc : JT X hx D W c ec) (ha : JE X hx D W a ea) (hb : JE X hx D W b eb) : JE X hx D W (.ite c a b) (.IfExp ec ea eb pos) := by
  refine PE.imp (pe_ifExp hc ha hb) fun sg H Q ⟨w, st, env, S, R, q⟩ => ?_
  have q : ((test D.C c env st).bind fun r m => if r then eval D.C a env m else eval D.C b env m).to (okV (X.kx hx) w Q) (exV (X.kx hx) D W w sg) := by
    have e : eval D.C (.ite c a b) env st = ((test D.C c env st).bind fun r m => if r then eval D.C a env m else eval D.C b env m) := by
      show (eval D.C c env st).bind _ = ((eval D.C c env st).bind _).bind _
      rw [Res.bind_assoc]
    rw [← e]; exact q
  refine tT_one S R q fun r m' w' H' le S' q => ?_
  cases r with
  | true => simp only [if_true] at q ⊢; exact ⟨w', m', env, S', R.mono le, to_later q le⟩
  | false => simp only [Bool.false_eq_true, if_false] at q ⊢; exact ⟨w', m', env, S', R.mono le, to_later q le⟩
/-! ### argument lists, displays, items -/
theorem A_nil : JA X hx D W .nil [] := PA.imp pa_nil fun sg H Q ⟨w, st, env, S, R, q⟩ => (show okL (X.kx hx) w Q [] st from q) _ _ .refl S _ .nil
theorem A_cons {a : E} {r : EL} {ea : Expr} {er : List Expr} (ha : JE X hx D W a ea) (hr : JA X hx D W r er) (hs : starEach (ea :: er) X.env = (false, PySem.eval ea X.env) :: starEach er X.env) : JA X hx D W (.cons a r) (ea :: er) := by
  refine PA.imp (pa_cons ha hr hs) fun sg H Q ⟨w, st, env, S, R, q⟩ => ?_
  refine tE_one S R q fun t m1 w1 H1 x le1 S1 r1 q1 => ?_
  refine tA_one S1 (R.mono le1) (later_okL.to q1 le1) fun ts m2 w2 H2 vs le2 S2 r2 q2 => ?_
  exact (show okL (X.kx hx) w1 Q (t :: ts) m2 from q2) _ _ le2 S2 _ (.cons (r1.mono le2) r2)
theorem E_list {es : EL} {ee : List Expr} (h : JA X hx D W es ee) : JE X hx D W (.list es) (.List ee pos) := by
  refine PE.imp (pe_lst h) fun sg H Q ⟨w, st, env, S, R, q⟩ => ?_
  refine tA_one S R q fun ts m' w' H' vs le S' r q => ?_
  unfold shortL at q
  split at q
  · rename_i hl
    refine ⟨by rw [LINE_eq, ← r.length]; exact hl, fun p hp => ?_⟩
    obtain ⟨S2, le2⟩ := S'.newZ hp (.lst vs)
    exact (show okV (X.kx hx) w Q (.lst ts) m' from q) _ _ (le.trans le2) S2 _ (.lst upd_same (r.mono le2))
  · exact (show False from q).elim
theorem E_tup {es : EL} {ee : List Expr} {k : Nat} (h : JA X hx D W es ee) : JE X hx D W (.tup es) (.Tuple ee k pos) := by
  refine PE.imp (pe_tup h) fun sg H Q ⟨w, st, env, S, R, q⟩ => ?_
  refine tA_one S R q fun ts m' w' H' vs le S' r q => ?_
  split at q
  · rename_i hl
    refine ⟨by rw [LINE_eq, ← r.length]; exact hl, fun p hp => ?_⟩
    obtain ⟨S2, le2⟩ := S'.newZ hp (.tup vs)
    exact (show okV (X.kx hx) w Q (.tup ts) m' from q) _ _ (le.trans le2) S2 _ (.tup upd_same (r.mono le2))
  · exact (show False from q).elim
theorem E_idx {a b : E} {ea eb : Expr} (ha : JE X hx D W a ea) (hb : JE X hx D W b eb) (hs : PlainIx eb) : JE X hx D W (.idx a b) (.Subscript ea eb pos) := by
  refine PE.imp (pe_ix (ix_rep (hx := hx)) ha hb hs) fun sg H Q ⟨w, st, env, S, R, q⟩ => ?_
  refine tE_two later_okV S R q fun t u m' w' H' x y le S' r1 r2 q => ?_
  obtain ⟨r, hr, q⟩ := Res.to_ofO q
  exact ⟨w', m', t, u, r, S', r1, r2, hr, q⟩
/-- a slice's bound -/
inductive JO (X : Cx) (hx : Option (Addr × Nat × List T)) (D : Sd) (W : WX) : E → Option Expr → Prop
  | none : JO X hx D W (.cst .non) none
  | some {m : E} {e : Expr} (h : JE X hx D W m e) : JO X hx D W m (some e)
/-- what a bound's reading asks -/
def tO (K : Kx) (D : Sd) (W : WX) (b : E) : TO := fun sg H Q => ∃ w m env, Sim K w m H ∧ EnvR K w env sg ∧ (eval D.C b env m).to (fun t m => aft K w m fun w' H' => ∃ o, toPart t = .some o ∧ Q o H') (exV K D W w sg)
theorem PO_of {b : E} {e : Option Expr} (h : JO X hx D W b e) : PO X e (tO (X.kx hx) D W b) := by
  cases h with
  | none =>
    refine ⟨fun pins s sg H Q I h => po_none.run pins s sg H Q I ?_⟩
    obtain ⟨w, m, env, S, R, q⟩ := h
    obtain ⟨o, e, q⟩ := (show aft (X.kx hx) w m _ from q) _ _ .refl S
    simp only [toPart, Option.some.injEq] at e; subst e
    exact q
  | some h =>
    refine ⟨fun pins s sg H Q I h' => ?_⟩
    obtain ⟨w, m, env, S, R, q⟩ := h'
    rw [evalPart_some]
    refine thn (h.run pins s sg H (fun x H1 => ∃ o, (∀ u, RelV x u → IsPart u o) ∧ Q o H1) I ⟨w, m, env, S, R, Res.to_mono q (fun t m' q w' H' le S' v r => ?_) fun _ _ _ q => q⟩) fun u s1 ⟨x, H1, I1, r1, o, ip, q1⟩ => ⟨o, H1, I1, ip u r1, q1⟩
    obtain ⟨o, e, q⟩ := q w' H' le S'
    cases r <;> simp only [toPart, Option.some.injEq, reduceCtorEq] at e
    · subst e; exact ⟨none, fun u r => by cases r; exact .none, q⟩
    · subst e; exact ⟨some _, fun u ⟨t, r⟩ => by rw [r]; exact .int _ t, q⟩
theorem E_slice {a lo hi : E} {ea : Expr} {el eh : Option Expr} {p2 : Pos} (ha : JE X hx D W a ea) (hl : JO X hx D W lo el) (hh : JO X hx D W hi eh) : JE X hx D W (.slice a lo hi) (.Subscript ea (.Slice el eh none p2) pos) := by
  refine PE.imp (pe_slice (sl_rep (hx := hx)) ha (PO_of hl) (PO_of hh)) fun sg H Q ⟨w, st, env, S, R, q⟩ => ?_
  refine tE_one S R q fun t m1 w1 H1 x le1 S1 r1 q1 => ?_
  refine ⟨w1, m1, env, S1, R.mono le1, Res.to_mono (Res.to_bind q1) (fun l m2 q2 w2 H2 le2 S2 => ?_) fun _ _ _ q => q.mono le1⟩
  obtain ⟨i, hi, q2⟩ := Res.to_ofO (Res.to_bind q2)
  refine ⟨i, hi, w2, m2, env, S2, (R.mono le1).mono le2, Res.to_mono (Res.to_bind q2) (fun h m3 q3 w3 H3 le3 S3 => ?_) fun _ _ _ q => q.mono (le1.trans le2)⟩
  obtain ⟨j, hj, q3⟩ := Res.to_ofO (Res.to_bind q3)
  obtain ⟨r, hr, q3⟩ := Res.to_ofO q3
  exact ⟨j, hj, w3, m3, t, r, S3, (r1.mono le2).mono le3, hr, okV.mono q3 ((le1.trans le2).trans le3)⟩
/-! ### built-in functions, methods -/
theorem E_callB {f : Bi} {args : EL} {e : Expr} {es : List Expr} {x : Str} {p : Pos} {id : String} (hc : CallR X (.builtin id) (rBi (X.kx hx) f)) (hg : Gl X x) (hm : X.mg x = none) (hv : bootBuiltins x = some (.builtin id)) (ha : JA X hx D W args (e :: es)) (hn : x ≠ "__name__") (hdb : (x == ("__debug__" : Str)) = false)
    (he : starEach (e :: es) X.env = (false, PySem.eval e X.env) :: starEach es X.env) (hpl : (backTo pos (starEach es X.env)).any (·.1) = false) : JE X hx D W (.callB f args) (.Call (.Name x p) (e :: es) [] pos) := by
  refine PE.imp (pe_callB hc hg hm hv ha hn hdb he hpl) fun sg H Q ⟨w, st, env, S, R, q⟩ => ?_
  refine tA_one S R q fun ts m' w' H' vs le S' r q => ?_
  obtain ⟨z, hz, q⟩ := Res.to_ofO q
  exact ⟨w', m', ts, z, S', r, hz, okV.mono q le⟩
theorem E_callTy {f : Bi} {args : EL} {e : Expr} {es : List Expr} {x : Str} {p : Pos} {T' : String} (hc : CallR X (.type T') (rBi (X.kx hx) f)) (hg : Gl X x) (hm : X.mg x = none) (hv : bootBuiltins x = some (.type T')) (ha : JA X hx D W args (e :: es)) (hn : x ≠ "__name__") (hdb : (x == ("__debug__" : Str)) = false)
    (he : starEach (e :: es) X.env = (false, PySem.eval e X.env) :: starEach es X.env) (hpl : (backTo pos (starEach es X.env)).any (·.1) = false) : JE X hx D W (.callB f args) (.Call (.Name x p) (e :: es) [] pos) := by
  refine PE.imp (pe_callTy hc hg hm hv ha hn hdb he hpl) fun sg H Q ⟨w, st, env, S, R, q⟩ => ?_
  refine tA_one S R q fun ts m' w' H' vs le S' r q => ?_
  obtain ⟨z, hz, q⟩ := Res.to_ofO q
  exact ⟨w', m', ts, z, S', r, hz, okV.mono q le⟩
end
end MP
end

section
set_option Elab.async false
set_option linter.all false
set_option maxRecDepth 100000
/-! MP7: walks, targets, comprehensions. -/
namespace MP
open PySem PySem.Spec PyProof.Rows L2

/-- an iterator gives a walk's items -/
def WalkR (K : Kx) (w : Wd) (wk : Walk) (J : L2.It) : Prop := ∀ w2 m H, w.le0 w2 → Sim K w2 m H → wk.ok m = true →
  (∀ i t, wk.xs[i]? = some t → J.go i H ∧ ∀ x H', J.yld i H x H' → ∃ w3, w2.le w3 ∧ Sim K w3 m H' ∧ Rep K w3 t x) ∧ J.stop wk.xs.length H
theorem WalkR.mono {K : Kx} {w w' : Wd} {wk : Walk} {J : L2.It} (h : WalkR K w wk J) (le : w.le w') : WalkR K w' wk J := fun w2 m H l S e => h w2 m H (le.to0.trans l) S e
def okW (K : Kx) (w : Wd) (R : L2.It → Hp → Prop) : Walk → Store → Prop := fun wk m => aft K w m fun w' H' => ∀ J, WalkR K w' wk J → R J H'
theorem later_okW {K : Kx} {R : L2.It → Hp → Prop} : Later (fun w => okW K w R) := fun _ _ _ _ le q => aft.mono q le
def tI (K : Kx) (D : Sd) (W : WX) (it : It) : TI := fun sg H R => ∃ w m env, Sim K w m H ∧ EnvR K w env sg ∧ (evalI D.C it env m).to (okW K w R) (exV K D W w sg)
theorem PI.imp {X : Cx} {tg e : Expr} {t t' : TI} (h : PI X tg e t) (i : ∀ sg H R, t' sg H R → t sg H R) : PI X tg e t' := ⟨fun pins s sg H R I q => h.run pins s sg H R I (i _ _ _ q)⟩
theorem PI.or {X : Cx} {tg e : Expr} {t t' : TI} (h : PI X tg e t) (h' : PI X tg e t') : PI X tg e (fun sg H R => t sg H R ∨ t' sg H R) := ⟨fun pins s sg H R I q => q.elim (h.run pins s sg H R I) (h'.run pins s sg H R I)⟩
mutual
theorem same_eq : ∀ x y : T, T.same x y = true → x = y
  | .non, y, h => by cases y <;> simp [T.same] at h ⊢
  | .bl a, y, h => by cases y <;> simp [T.same] at h ⊢; exact h
  | .int a, y, h => by cases y <;> simp [T.same] at h ⊢; exact h
  | .str a, y, h => by cases y <;> simp [T.same] at h ⊢; exact h
  | .lst xs, y, h => by cases y <;> simp [T.same] at h ⊢; exact sames_eq xs _ h
  | .tup xs, y, h => by cases y <;> simp [T.same] at h ⊢; exact sames_eq xs _ h
  | .dct ks vs, y, h => by cases y <;> simp [T.same] at h ⊢; exact ⟨sames_eq ks _ h.1, sames_eq vs _ h.2⟩
  | .set xs, y, h => by cases y <;> simp [T.same] at h ⊢; exact sames_eq xs _ h
  | .obj a, y, h => by cases y <;> simp [T.same] at h ⊢; exact h
  | .exc c xs, y, h => by cases y <;> simp [T.same] at h ⊢; exact ⟨h.1, sames_eq xs _ h.2⟩
  | .scr a, y, h => by cases y <;> simp [T.same] at h ⊢; exact h
theorem sames_eq : ∀ xs ys : List T, T.sames xs ys = true → xs = ys
  | [], ys, h => by cases ys <;> simp [T.sames] at h ⊢
  | x :: xs, ys, h => by
    cases ys with
    | nil => simp [T.sames] at h
    | cons y ys =>
      simp only [T.sames, Bool.and_eq_true] at h
      rw [same_eq x y h.1, sames_eq xs ys h.2]
end
section
variable {K : Kx} {w : Wd} {m : Store} {H : Hp}
theorem upFrom_get : ∀ (n : Nat) (lo : Int) (i : Nat), i < n → (upFrom lo n)[i]? = some (.int (lo + i))
  | 0, _, _, h => absurd h (Nat.not_lt_zero _)
  | n + 1, lo, 0, _ => by simp [upFrom]
  | n + 1, lo, i + 1, h => by
    simp only [upFrom, List.getElem?_cons_succ]
    rw [upFrom_get n (lo + 1) i (by omega)]
    congr 2; omega
theorem upFrom_len : ∀ (n : Nat) (lo : Int), (upFrom lo n).length = n
  | 0, _ => rfl
  | n + 1, lo => by simp [upFrom, upFrom_len n (lo + 1)]
theorem downFrom_get : ∀ (n : Nat) (lo : Int) (i : Nat), i < n → (downFrom lo n)[i]? = some (.int (lo - i))
  | 0, _, _, h => absurd h (Nat.not_lt_zero _)
  | n + 1, lo, 0, _ => by simp [downFrom]
  | n + 1, lo, i + 1, h => by
    simp only [downFrom, List.getElem?_cons_succ]
    rw [downFrom_get n (lo - 1) i (by omega)]
    congr 2; omega
theorem downFrom_len : ∀ (n : Nat) (lo : Int), (downFrom lo n).length = n
  | 0, _ => rfl
  | n + 1, lo => by simp [downFrom, downFrom_len n (lo - 1)]
theorem lt_of_get {α : Type} {l : List α} {i : Nat} {a : α} (h : l[i]? = some a) : i < l.length := by
  by_cases q : i < l.length
  · exact q
  · rw [List.getElem?_eq_none (by omega)] at h; cases h
theorem walk_range (lo : Int) (n : Nat) : WalkR K w ⟨upFrom lo n, none, false⟩ (Itr lo n) := by
  intro w2 m H le S _
  refine ⟨fun i t hi => ?_, ?_⟩
  · have hl : i < n := by have := lt_of_get hi; rwa [upFrom_len] at this
    rw [upFrom_get n lo i hl] at hi; cases hi
    refine ⟨hl, fun x H' y => ?_⟩
    obtain ⟨rfl, rfl⟩ := y
    exact ⟨w2, .refl, S, .int _⟩
  · show n ≤ _
    rw [upFrom_len]; exact Nat.le_refl _
theorem walk_down (lo : Int) (n : Nat) : WalkR K w ⟨downFrom lo n, none, false⟩ (Itc lo (-1) n) := by
  intro w2 m H le S _
  refine ⟨fun i t hi => ?_, ?_⟩
  · have hl : i < n := by have := lt_of_get hi; rwa [downFrom_len] at this
    rw [downFrom_get n lo i hl] at hi; cases hi
    refine ⟨hl, fun x H' y => ?_⟩
    obtain ⟨rfl, rfl⟩ := y
    refine ⟨w2, .refl, S, ?_⟩
    rw [show lo + (i : Int) * -1 = lo - i from by omega]
    exact .int _
  · show n ≤ _
    rw [downFrom_len]; exact Nat.le_refl _
/-- what is read at a: a frozen list, or a list cell that stands -/
theorem walk_list {a : Addr} {xs : List T} {wk : Walk} (e : wk.xs = xs) (h : ∀ w2 m H, w.le0 w2 → Sim K w2 m H → wk.ok m = true → ∃ vs, H a = some (.lst vs) ∧ Reps K w2 xs vs) : WalkR K w wk (Itl K.K a) := by
  intro w2 m H le S ok
  subst e
  obtain ⟨vs, hp, rp⟩ := h w2 m H le S ok
  refine ⟨fun i t hi => ?_, ⟨vs, .of hp, by rw [rp.length]; exact Nat.le_refl _⟩⟩
  obtain ⟨v, hv, rv⟩ := rp.get hi
  refine ⟨⟨vs, v, .of hp, hv⟩, fun x H' y => ?_⟩
  obtain ⟨rfl, y⟩ := y
  refine ⟨w2, .refl, S, ?_⟩
  have := y vs (.of hp)
  rw [hv] at this; cases this
  exact rv
theorem walk_tup {a : Addr} {xs : List T} {vs : List V} (hp : w.Z a = some (.tup vs)) (rp : Reps K w xs vs) : WalkR K w ⟨xs, none, false⟩ (Itt K.K a) := by
  intro w2 m H le S _
  have hq := S.z _ _ (le.z _ _ hp)
  refine ⟨fun i t hi => ?_, ⟨vs, .of hq, by rw [rp.length]; exact Nat.le_refl _⟩⟩
  obtain ⟨v, hv, rv⟩ := rp.get hi
  refine ⟨⟨vs, v, .of hq, hv⟩, fun x H' y => ?_⟩
  obtain ⟨rfl, y⟩ := y
  refine ⟨w2, .refl, S, ?_⟩
  have := y vs (.of hq)
  rw [hv] at this; cases this
  exact rv.mono0 le
theorem walk_str (z : Nm) : WalkR K w ⟨z.map fun c => .str [c], none, false⟩ (Its (toStr z)) := by
  intro w2 m H le S _
  refine ⟨fun i t hi => ?_, ?_⟩
  · simp only [List.getElem?_map, Option.map_eq_some_iff] at hi
    obtain ⟨c, hc, rfl⟩ := hi
    have hl : i < z.length := lt_of_get hc
    refine ⟨?_, fun x H' y => ?_⟩
    · show i < (z.map Char.toNat).toArray.size
      simpa using hl
    · obtain ⟨rfl, d, hd, rfl⟩ := y
      refine ⟨w2, .refl, S, ?_⟩
      have : d = c.toNat := by
        have h2 : (z.map Char.toNat).toArray[i]? = some d := hd
        simp [hc] at h2
        exact h2.symm
      subst this
      exact .str [c]
  · show (z.map Char.toNat).toArray.size ≤ _
    simp
end
section
variable {X : Cx} {hx : Option (Addr × Nat × List T)} {D : Sd} {W : WX} {pos p : Pos} {tg : Expr}
abbrev JI (X : Cx) (hx : Option (Addr × Nat × List T)) (D : Sd) (W : WX) (tg : Expr) (m : It) (e : Expr) : Prop := PI X tg e (tI (X.kx hx) D W m)
theorem I_of {m : E} {e : Expr} (h : JE X hx D W m e) : JI X hx D W tg (.of m) e := by
  refine PI.imp (MP.PI.or (MP.PI.or (pi_list h) (pi_tup h)) (pi_str h)) fun sg H R ⟨w, st, env, S, E', q⟩ => ?_
  have q := Res.to_bind (show ((eval D.C m env st).bind fun x m => Res.ofO (walkOf m x) m).to _ _ from q)
  cases he : eval D.C m env st with
  | stuck => rw [he] at q; exact q.elim
  | exc c xs m' =>
    rw [he] at q
    exact .inl (.inl ⟨w, st, env, S, E', by rw [he]; exact q⟩)
  | ok t m' =>
    rw [he] at q
    obtain ⟨wk, hw, q⟩ := Res.to_ofO (show (Res.ofO (walkOf m' t) m').to (okW (X.kx hx) w R) _ from q)
    cases t with
    | lst xs =>
      simp only [walkOf, Option.some.injEq] at hw; subst hw
      refine .inl (.inl ⟨w, st, env, S, E', ?_⟩)
      rw [he]
      intro w' H' le S' v r
      cases r with
      | @lst a vs _ hp rp =>
        refine ⟨a, rfl, ⟨vs, .of (S'.z _ _ hp)⟩, q _ _ le S' _ (walk_list rfl fun w2 m2 H2 le2 S2 _ => ⟨vs, S2.z _ _ (le2.z _ _ hp), rp.mono0 le2⟩)⟩
    | tup xs =>
      simp only [walkOf, Option.some.injEq] at hw; subst hw
      refine .inl (.inr ⟨w, st, env, S, E', ?_⟩)
      rw [he]
      intro w' H' le S' v r
      cases r with
      | @tup a vs _ hp rp => exact ⟨a, rfl, ⟨vs, .of (S'.z _ _ hp)⟩, q _ _ le S' _ (walk_tup hp rp)⟩
    | str z =>
      simp only [walkOf, Option.some.injEq] at hw; subst hw
      refine .inr ⟨w, st, env, S, E', ?_⟩
      rw [he]
      intro w' H' le S' v r
      cases r with
      | str _ => exact ⟨_, rfl, q _ _ le S' _ (walk_str z)⟩
    | obj n =>
      simp only [walkOf] at hw
      split at hw
      · rename_i xs hm
        simp only [Option.some.injEq] at hw; subst hw
        refine .inl (.inl ⟨w, st, env, S, E', ?_⟩)
        rw [he]
        intro w' H' le S' v r
        cases r with
        | @obj _ a hn =>
          obtain ⟨vs, hp, rp⟩ := S'.cells n a _ hn hm
          refine ⟨a, rfl, ⟨vs, .of hp⟩, q _ _ le S' _ (walk_list rfl fun w2 m2 H2 le2 S2 ok => ?_)⟩
          simp only [Walk.ok] at ok
          split at ok
          · rename_i ys hm2
            simp only [Bool.not_false, Bool.true_and] at ok
            have := sames_eq _ _ ok
            subst this
            exact S2.cells n a _ (pre_get le2.r hn) hm2
          · simp at ok
          · cases ok
      · rename_i ks vs hm
        simp only [Option.some.injEq] at hw; subst hw
        refine .inl (.inl ⟨w, st, env, S, E', ?_⟩)
        rw [he]
        intro w' H' le S' v r
        cases r with
        | @obj _ a hn => exact (S'.cells n a _ hn hm).elim
      · cases hw
    | dct ks vs =>
      refine .inl (.inl ⟨w, st, env, S, E', ?_⟩)
      rw [he]
      intro w' H' le S' v r
      cases r
    | _ => simp [walkOf] at hw
theorem rngOk_iff {i : Int} (h : rngOk i = true) : -(2 ^ 62) ≤ i ∧ i < 2 ^ 62 := by
  unfold rngOk at h
  simp only [Bool.and_eq_true, decide_eq_true_eq] at h
  constructor
  · have := h.1; omega
  · have := h.2; omega
theorem I_rng {a : E} {ea : Expr} (hg : Gl X "range") (hm : X.mg "range" = none) (ha : JA X hx D W (.cons a .nil) [ea]) (hs : starEach [ea] X.env = [(false, PySem.eval ea X.env)]) : JI X hx D W tg (.rng a) (.Call (.Name "range" p) [ea] [] pos) := by
  refine PI.imp (pi_range1 hg hm ha hs) fun sg H R ⟨w, st, env, S, E', q⟩ => ?_
  have e : evals D.C (.cons a .nil) env st = (eval D.C a env st).bind fun x m => .ok [x] m := rfl
  refine ⟨w, st, env, S, E', ?_⟩
  rw [e]
  cases he : eval D.C a env st with
  | stuck => simp only [evalI, he] at q; exact q.elim
  | exc c xs m' => simp only [evalI, he] at q; exact q
  | ok t m' =>
    simp only [evalI, he, Res.bind_ok] at q ⊢
    intro w' H' le S' vs r
    obtain ⟨v, rfl, r1⟩ := one_arg r rfl
    cases r1 with
    | int j =>
      simp only at q
      split at q
      · rename_i hj
        obtain ⟨h1, h2⟩ := rngOk_iff hj
        exact ⟨j, rfl, h1, h2, (show okW (X.kx hx) w R _ m' from q) _ _ le S' _ (walk_range 0 j.toNat)⟩
      · exact q.elim
    | _ => exact (show False from q).elim
theorem I_rng2 {a b : E} {ea eb : Expr} (hg : Gl X "range") (hm : X.mg "range" = none) (ha : JA X hx D W (.cons a (.cons b .nil)) [ea, eb]) (hs : starEach [ea, eb] X.env = [(false, PySem.eval ea X.env), (false, PySem.eval eb X.env)]) (hs2 : starEach [eb] X.env = [(false, PySem.eval eb X.env)]) :
    JI X hx D W tg (.rng2 a b) (.Call (.Name "range" p) [ea, eb] [] pos) := by
  refine PI.imp (pi_range2 hg hm ha hs hs2) fun sg H R ⟨w, st, env, S, E', q⟩ => ?_
  have e : evals D.C (.cons a (.cons b .nil)) env st = (eval D.C a env st).bind fun x m => (eval D.C b env m).bind fun y m => .ok [x, y] m := by
    show (eval D.C a env st).bind (fun x m => ((eval D.C b env m).bind fun y m => .ok [y] m).bind fun xs m => .ok (x :: xs) m) = _
    congr 1; funext x m
    rw [Res.bind_assoc]; rfl
  refine ⟨w, st, env, S, E', ?_⟩
  rw [e]
  cases he : eval D.C a env st with
  | stuck => simp only [evalI, he] at q; exact q.elim
  | exc c xs m' => simp only [evalI, he] at q; exact q
  | ok t m' =>
    simp only [evalI, he, Res.bind_ok] at q ⊢
    cases hf : eval D.C b env m' with
    | stuck => simp only [hf] at q; exact q.elim
    | exc c xs m2 => simp only [hf] at q; exact q
    | ok u m2 =>
      simp only [hf, Res.bind_ok] at q ⊢
      intro w' H' le S' vs r
      obtain ⟨v, z, rfl, r1, r2⟩ := two_args r rfl
      cases r1 with
      | int i =>
        cases r2 with
        | int j =>
          simp only at q
          split at q
          · rename_i hj
            rw [Bool.and_eq_true] at hj
            obtain ⟨h1, h2⟩ := rngOk_iff hj.1
            obtain ⟨h3, h4⟩ := rngOk_iff hj.2
            exact ⟨i, j, rfl, ⟨h1, h2, h3, h4⟩, (show okW (X.kx hx) w R _ m2 from q) _ _ le S' _ (walk_range i (j - i).toNat)⟩
          · exact q.elim
        | _ => exact (show False from q).elim
      | _ => exact (show False from q).elim

theorem evals1 {C : Ctx} {a : E} {env : Env} {m : Store} : evals C (.cons a .nil) env m = (eval C a env m).bind fun x m => .ok [x] m := rfl
theorem evals2 {C : Ctx} {a b : E} {env : Env} {m : Store} : evals C (.cons a (.cons b .nil)) env m = (eval C a env m).bind fun x m => (eval C b env m).bind fun y m => .ok [x, y] m := by
  show (eval C a env m).bind (fun x m => ((eval C b env m).bind fun y m => .ok [y] m).bind fun xs m => .ok (x :: xs) m) = _
  congr 1; funext x m
  rw [Res.bind_assoc]; rfl
theorem evals3 {C : Ctx} {a b c : E} {env : Env} {m : Store} : evals C (.cons a (.cons b (.cons c .nil))) env m = (eval C a env m).bind fun x m => (eval C b env m).bind fun y m => (eval C c env m).bind fun z m => .ok [x, y, z] m := by
  show (eval C a env m).bind (fun x m => (evals C (.cons b (.cons c .nil)) env m).bind fun xs m => .ok (x :: xs) m) = _
  congr 1; funext x m
  rw [evals2, Res.bind_assoc]
  congr 1; funext y m
  rw [Res.bind_assoc]; rfl
theorem I_rng3 {a b c : E} {ea eb ec : Expr} (hg : Gl X "range") (hm : X.mg "range" = none) (ha : JA X hx D W (.cons a (.cons b (.cons c .nil))) [ea, eb, ec])
    (hs : starEach [ea, eb, ec] X.env = (false, PySem.eval ea X.env) :: starEach [eb, ec] X.env) (hpl : (backTo pos (starEach [eb, ec] X.env)).any (·.1) = false) :
    JI X hx D W tg (.rng3 a b c) (.Call (.Name "range" p) [ea, eb, ec] [] pos) := by
  refine PI.imp (pi_range3 hg hm ha hs hpl) fun sg H R ⟨w, st, env, S, E', q⟩ => ?_
  refine ⟨w, st, env, S, E', ?_⟩
  rw [evals3]
  cases he : eval D.C a env st with
  | stuck => simp only [evalI, he] at q; exact q.elim
  | exc c xs m' => simp only [evalI, he] at q; exact q
  | ok t m' =>
    simp only [evalI, he, Res.bind_ok] at q ⊢
    cases hf : eval D.C b env m' with
    | stuck => simp only [hf] at q; exact q.elim
    | exc c xs m2 => simp only [hf] at q; exact q
    | ok u m2 =>
      simp only [hf, Res.bind_ok] at q ⊢
      cases hk : eval D.C c env m2 with
      | stuck => simp only [hk] at q; exact q.elim
      | exc c xs m3 => simp only [hk] at q; exact q
      | ok y m3 =>
        simp only [hk, Res.bind_ok] at q ⊢
        intro w' H' le S' vs r
        cases r with
        | cons r1 r =>
        cases r with
        | cons r2 r =>
        cases r with
        | cons r3 r =>
        cases r
        cases r1 with
        | int i =>
          cases r2 with
          | int j =>
            cases r3 with
            | int k =>
              simp only at q
              split at q
              · rename_i hj
                simp only [Bool.and_eq_true] at hj
                obtain ⟨rfl, hj1, hj2⟩ := hj
                obtain ⟨h1, h2⟩ := rngOk_iff hj1
                obtain ⟨h3, h4⟩ := rngOk_iff hj2
                exact ⟨i, j, -1, (i - j).toNat, rfl, RgC.neg h1 h2 h3 h4, (show okW (X.kx hx) w R _ m3 from q) _ _ le S' _ (walk_down i (i - j).toNat)⟩
              · exact q.elim
            | _ => exact (show False from q).elim
          | _ => exact (show False from q).elim
        | _ => exact (show False from q).elim
theorem walk_rev {K : Kx} {w : Wd} {a : Addr} {xs : List T} {vs : List V} (hp : w.Z a = some (.lst vs)) (rp : Reps K w xs vs) : WalkR K w ⟨xs.reverse, none, false⟩ (Itv K.K a vs.length) := by
  intro w2 m H le S _
  have hq := S.z _ _ (le.z _ _ hp)
  have hl := rp.length
  refine ⟨fun i t hi => ?_, ?_⟩
  · have hn : i < xs.length := by have := lt_of_get hi; simpa using this
    rw [List.getElem?_reverse hn] at hi
    rw [hl] at hi hn
    obtain ⟨v, hv, rv⟩ := rp.get hi
    refine ⟨⟨hn, vs, v, .of hq, hv⟩, fun x H' y => ?_⟩
    obtain ⟨rfl, y⟩ := y
    refine ⟨w2, .refl, S, ?_⟩
    have := y vs (.of hq)
    rw [hv] at this; cases this
    exact rv.mono0 le
  · show vs.length ≤ _
    simp [hl]
theorem I_rev {a : E} {ea : Expr} (hg : Gl X "reversed") (hm : X.mg "reversed" = none) (ha : JA X hx D W (.cons a .nil) [ea]) (hs : starEach [ea] X.env = [(false, PySem.eval ea X.env)]) : JI X hx D W tg (.rev a) (.Call (.Name "reversed" p) [ea] [] pos) := by
  refine PI.imp (pi_reversed hg hm ha hs) fun sg H R ⟨w, st, env, S, E', q⟩ => ?_
  refine ⟨w, st, env, S, E', ?_⟩
  rw [evals1]
  cases he : eval D.C a env st with
  | stuck => simp only [evalI, he] at q; exact q.elim
  | exc c xs m' => simp only [evalI, he] at q; exact q
  | ok t m' =>
    simp only [evalI, he, Res.bind_ok] at q ⊢
    intro w' H' le S' vs r
    obtain ⟨v, rfl, r1⟩ := one_arg r rfl
    cases r1 with
    | @lst p vs ts hp rp => exact ⟨p, vs, rfl, .of (S'.z _ _ hp), (show okW (X.kx hx) w R _ m' from q) _ _ le S' _ (walk_rev hp rp)⟩
    | _ => exact (show False from q).elim

/-! ### targets -/
theorem wipe_set_in : ∀ (vs : List Nat) (sg : L2.St) (i : Nat) (x : Option V), i ∈ vs → L2.wipe (sg.set i x) vs = L2.wipe sg vs
  | [], _, _, _, h => by cases h
  | v :: vs, sg, i, x, h => by
    show (L2.wipe (sg.set i x) vs).set v none = (L2.wipe sg vs).set v none
    by_cases q : i ∈ vs
    · rw [wipe_set_in vs sg i x q]
    · have e : i = v := by rcases List.mem_cons.mp h with e | e; exact e; exact absurd e q
      subst e
      have c : ∀ (us : List Nat) (sg : L2.St), i ∉ us → L2.wipe (sg.set i x) us = (L2.wipe sg us).set i x := by
        intro us
        induction us with
        | nil => intro _ _; rfl
        | cons u us ih =>
          intro sg h
          simp only [List.mem_cons, not_or] at h
          show (L2.wipe (sg.set i x) us).set u none = ((L2.wipe sg us).set u none).set i x
          rw [ih sg h.2, List.set_comm _ _ h.1]
      rw [c vs sg q, List.set_set]
theorem wipe_wipe : ∀ (vs us : List Nat) (sg : L2.St), (∀ i ∈ us, i ∈ vs) → L2.wipe (L2.wipe sg us) vs = L2.wipe sg vs
  | vs, [], sg, _ => rfl
  | vs, u :: us, sg, h => by
    show L2.wipe ((L2.wipe sg us).set u none) vs = _
    rw [wipe_set_in vs _ u none (h u List.mem_cons_self), wipe_wipe vs us sg fun i hi => h i (List.mem_cons_of_mem _ hi)]
theorem EnvR.set {K : Kx} {w : Wd} {env : Env} {sg : L2.St} {i : Nat} {t : T} {v : V} (h : EnvR K w env sg) (hi : i < sg.length) (r : Rep K w t v) : EnvR K w (env.set i (some t)) (sg.set i (some v)) := by
  intro j u e
  unfold Env.get at e
  by_cases q : i = j
  · subst q
    rw [List.getElem?_set_self hi]
    by_cases z : i < env.length
    · rw [List.getElem?_set_self z] at e
      simp only [Option.bind_some, id, Option.some.injEq] at e
      subst e; exact ⟨v, rfl, r⟩
    · rw [List.getElem?_eq_none (by simpa using z)] at e; cases e
  · rw [List.getElem?_set_ne q] at e ⊢
    exact h j u e
theorem EnvR.unset {K : Kx} {w : Wd} {env : Env} {sg : L2.St} {i : Nat} (h : EnvR K w env sg) : EnvR K w (env.set i none) (sg.set i none) := by
  intro j u e
  unfold Env.get at e
  by_cases q : i = j
  · subst q
    by_cases z : i < env.length
    · rw [List.getElem?_set_self z] at e; cases e
    · rw [List.getElem?_eq_none (by simpa using z)] at e; cases e
  · rw [List.getElem?_set_ne q] at e ⊢
    exact h j u e
theorem EnvR.wipe {K : Kx} {w : Wd} {env : Env} {sg : L2.St} (h : EnvR K w env sg) : ∀ vs : List Nat, EnvR K w (MP.wipe env vs) (L2.wipe sg vs)
  | [] => h
  | v :: vs => (EnvR.wipe h vs).unset
def Tgt.slots : Tgt → List Nat
  | .one i => [i]
  | .many is => is
/-- a target, by what the evaluator says -/
def tG (K : Kx) (g : Tgt) : TG := fun v sg H Q => ∃ w m t env env', Sim K w m H ∧ EnvR K w env sg ∧ Rep K w t v ∧ g.set m t env = some env' ∧
  ∀ sg', EnvR K w env' sg' → sg'.length = sg.length → (∀ vs : List Nat, (∀ i ∈ g.slots, i ∈ vs) → L2.wipe sg' vs = L2.wipe sg vs) → Q sg' H
theorem G_one {i : Nat} {e : Expr} (h : PG X e (gName i)) (hi : i < X.N.length) : PG X e (tG (X.kx hx) (.one i)) := by
  refine ⟨fun pins s sg H v u Q I r ⟨w, m, t, env, env', S, R, rt, e', q⟩ => h.run pins s sg H v u Q I r ?_⟩
  simp only [Tgt.set, Option.some.injEq] at e'; subst e'
  exact q _ (R.set (by rw [I.len]; exact hi) rt) (by simp) fun vs hv => wipe_set_in vs sg i _ (hv i (by simp [Tgt.slots]))
def gNames : List Nat → TGs
  | [] => gNil
  | i :: is => gCons (gName i) (gNames is)
theorem gNames_run {K : Kx} {w : Wd} {H : Hp} : ∀ (is : List Nat) (ts : List T) (vs : List V) (env env' : Env) (sg : L2.St) (Q : L2.St → Hp → Prop), setAll env is ts = some env' → Reps K w ts vs → EnvR K w env sg → (∀ i ∈ is, i < sg.length) →
    (∀ sg', EnvR K w env' sg' → sg'.length = sg.length → (∀ us : List Nat, (∀ i ∈ is, i ∈ us) → L2.wipe sg' us = L2.wipe sg us) → Q sg' H) → gNames is vs sg H Q
  | [], [], vs, env, env', sg, Q, e, r, R, _, q => by
    cases r
    simp only [setAll, Option.some.injEq] at e; subst e
    exact ⟨rfl, q sg R rfl fun _ _ => rfl⟩
  | [], _ :: _, _, _, _, _, _, e, _, _, _, _ => by simp [setAll] at e
  | _ :: _, [], _, _, _, _, _, e, _, _, _, _ => by simp [setAll] at e
  | i :: is, t :: ts, vs, env, env', sg, Q, e, r, R, hi, q => by
    cases r with
    | @cons _ _ v vs r1 r2 =>
      refine ⟨v, vs, rfl, ?_⟩
      refine gNames_run is ts vs (env.set i (some t)) env' (sg.set i (some v)) Q e r2 (R.set (hi i List.mem_cons_self) r1) (fun j hj => by simpa using hi j (List.mem_cons_of_mem _ hj)) fun sg' R' l' w' => ?_
      refine q sg' R' (by rw [l']; simp) fun us hu => ?_
      rw [w' us fun j hj => hu j (List.mem_cons_of_mem _ hj), wipe_set_in us sg i _ (hu i List.mem_cons_self)]
theorem PG.or {e : Expr} {t t' : TG} (h : PG X e t) (h' : PG X e t') : PG X e (fun v sg H Q => t v sg H Q ∨ t' v sg H Q) :=
  ⟨fun pins s sg H v u Q I r q => q.elim (h.run pins s sg H v u Q I r) (h'.run pins s sg H v u Q I r)⟩
theorem G_many {is : List Nat} {es : List Expr} {k : Nat} (hc : X.calm = true) (h : PGs X es (gNames is)) (hn : (assignEach es X.env).length = is.length) (hst : (assignEach es X.env).findIdx? (·.1) = none) (hi : ∀ i ∈ is, i < X.N.length) : PG X (.Tuple es k pos) (tG (X.kx hx) (.many is)) := by
  refine ⟨fun pins s sg H v u Q I r ⟨w, m, t, env, env', S, R, rt, e', q⟩ => ?_⟩
  have hi' : ∀ i ∈ is, i < sg.length := fun i h => by rw [I.len]; exact hi i h
  have len : ∀ (is : List Nat) (ts : List T) (env env' : Env), setAll env is ts = some env' → ts.length = is.length := by
    intro is
    induction is with
    | nil => intro ts env env' e; cases ts <;> simp [setAll] at e ⊢
    | cons i is ih => intro ts env env' e; cases ts with
      | nil => simp [setAll] at e
      | cons t ts => simp only [setAll] at e; simp [ih ts _ _ e]
  refine (MP.PG.or (pg_tup hc h hn hst) (pg_lst hc h hn hst)).run pins s sg H v u Q I r ?_
  have lst : ∀ ts : List T, vwL m t = some ts → setAll env is ts = some env' → gLst X.K is.length (gNames is) v sg H Q := by
    intro ts h1 h2
    obtain ⟨a, vs, rfl, hp, rp⟩ := vwL_rep S rt h1
    exact ⟨a, vs, rfl, .of hp, by rw [← rp.length, len is ts _ _ h2], gNames_run is ts vs env env' sg Q h2 rp R hi' q⟩
  cases rt with
  | @tup a vs ts hp rp =>
    simp only [Tgt.set] at e'
    exact .inl ⟨a, vs, rfl, .of (S.z _ _ hp), by rw [← rp.length, len is ts _ _ e'], gNames_run is ts vs env env' sg Q e' rp R hi' q⟩
  | @lst a vs ts hp rp => exact .inr (lst ts rfl (by simpa [Tgt.set, vwL] using e'))
  | @obj n a hn' =>
    simp only [Tgt.set] at e'
    obtain ⟨ts, h1, h2⟩ := Option.bind_eq_some_iff.mp e'
    exact .inr (lst ts h1 h2)
  | _ => simp [Tgt.set, vwL] at e'
end
end MP
end

section
set_option Elab.async false
set_option linter.all false
set_option maxRecDepth 100000
/-! MP8: comprehensions. -/
namespace MP
open PySem PySem.Spec PyProof.Rows L2

/-- a new list that is being filled at d -/
structure AccS (K : Kx) (w : Wd) (m : Store) (H : Hp) (d : Addr) (acc : List T) (vs : List V) : Prop where
  sim : Sim K w m H
  at_ : H d = some (.lst vs)
  z : w.Z d = none
  r : Off w m d
  f : w.Fr d = none
  rep : Reps K w acc vs
/-- .. held as a frame -/
def Wd.hold (w : Wd) (d : Addr) (vs : List V) : Wd := ⟨w.Z, w.rho, upd w.Fr d (.lst vs)⟩
theorem Wd.hold_le0 {w : Wd} {d : Addr} {vs : List V} : w.le0 (w.hold d vs) := ⟨Sub.refl, List.prefix_refl _⟩
theorem Wd.drop_le0 {w : Wd} {d : Addr} {vs : List V} : (w.hold d vs).le0 w := ⟨Sub.refl, List.prefix_refl _⟩
section
variable {K : Kx} {w w3 : Wd} {m m3 : Store} {H H3 : Hp} {d : Addr} {acc : List T} {vs : List V}
theorem AccS.new (S : Sim K w m H) (hd : H d = none) : AccS K w m (upd H d (.lst [])) d [] [] := by
  obtain ⟨h1, h2, h3⟩ := S.fresh hd
  exact ⟨S.new hd, upd_same, h1, h2, h3, .nil⟩
theorem AccS.held (A : AccS K w m H d acc vs) : Sim K (w.hold d vs) m H := by
  refine ⟨A.sim.z, A.sim.len, A.sim.inj, fun n a ha hl => ?_, fun n a c e1 e2 => (A.sim.cells n a c e1 e2).mono0 Wd.hold_le0, fun a o e => ?_⟩
  · obtain ⟨h1, h2, h3⟩ := A.sim.there n a ha hl
    refine ⟨h1, ?_, h3⟩
    show upd w.Fr d (.lst vs) a = none
    rw [upd_ne (fun z => A.r n (by rw [← z]; exact ha) hl)]; exact h2
  · by_cases q : a = d
    · subst q
      have e : upd w.Fr a (.lst vs) a = some o := e
      rw [upd_same] at e; rw [← e]
      exact ⟨A.at_, A.z⟩
    · have e : upd w.Fr d (.lst vs) a = some o := e
      rw [upd_ne q] at e; exact A.sim.fr a o e
/-- behind a part of a turn -/
theorem AccS.back (A : AccS K w m H d acc vs) (le : (w.hold d vs).le w3) (S : Sim K w3 m3 H3) : AccS K ⟨w3.Z, w3.rho, w.Fr⟩ m3 H3 d acc vs ∧ w.le ⟨w3.Z, w3.rho, w.Fr⟩ ∧ w3.le0 ⟨w3.Z, w3.rho, w.Fr⟩ := by
  have hf : w3.Fr = upd w.Fr d (.lst vs) := le.f
  have hd := S.fr d (.lst vs) (by rw [hf, upd_same])
  have h0 : w3.le0 ⟨w3.Z, w3.rho, w.Fr⟩ := ⟨Sub.refl, List.prefix_refl _⟩
  have hr : Off w3 m3 d := fun n z hl => by
    have := (S.there n d z hl).2.1
    rw [hf, upd_same] at this; cases this
  refine ⟨⟨⟨S.z, S.len, S.inj, fun n a ha hl => ?_, fun n a c e1 e2 => (S.cells n a c e1 e2).mono0 h0, fun a o e => ?_⟩, hd.1, hd.2, hr, A.f, ?_⟩, ⟨le.z, le.r, rfl⟩, h0⟩
  · obtain ⟨h1, h2, h3⟩ := S.there n a ha hl
    refine ⟨h1, ?_, h3⟩
    rw [hf, upd_ne (fun z => hr n (by rw [← z]; exact ha) hl)] at h2; exact h2
  · have ne : a ≠ d := fun z => by
      have e : w.Fr a = some o := e
      rw [z, A.f] at e; cases e
    exact S.fr a o (by rw [hf, upd_ne ne]; exact e)
  · exact A.rep.mono0 (⟨le.z, le.r⟩ : w.le0 ⟨w3.Z, w3.rho, w.Fr⟩)
/-- one item more -/
theorem AccS.snoc (A : AccS K w m H d acc vs) {t : T} {v : V} (r : Rep K w t v) : AccS K w m (upd H d (.lst (vs ++ [v]))) d (acc ++ [t]) (vs ++ [v]) := by
  have nz : ∀ b u, w.Z b = some u → b ≠ d := fun b u e z => by rw [z, A.z] at e; cases e
  have nf : ∀ b u, w.Fr b = some u → b ≠ d := fun b u e z => by rw [z, A.f] at e; cases e
  have nr : ∀ n b, w.rho[n]? = some b → Live m n → b ≠ d := fun n b h hl z => A.r n (by rw [← z]; exact h) hl
  refine ⟨⟨fun b u e => by rw [upd_ne (nz b u e)]; exact A.sim.z b u e, A.sim.len, A.sim.inj, fun n b hb hl => ?_, fun n b c e1 e2 => ?_, fun b u e => ?_⟩, upd_same, A.z, A.r, A.f, A.rep.append (.cons r .nil)⟩
  · obtain ⟨h1, h2, u, h3⟩ := A.sim.there n b hb hl
    exact ⟨h1, h2, u, by rw [upd_ne (nr n b hb hl)]; exact h3⟩
  · cases c with
    | dead => trivial
    | _ => exact (A.sim.cells n b _ e1 e2).at fun u e => by rw [upd_ne (nr n b e1 ⟨_, e2, by simp⟩)]; exact e
  · obtain ⟨h1, h2⟩ := A.sim.fr b u e
    exact ⟨by rw [upd_ne (nf b u e)]; exact h1, h2⟩
/-- done: it is frozen -/
theorem AccS.done (A : AccS K w m H d acc vs) : ∃ w', w.le w' ∧ Sim K w' m H ∧ Rep K w' (.lst acc) (.ref d) := by
  obtain ⟨S, le⟩ := A.sim.freeze A.at_ A.z A.r A.f
  exact ⟨_, le, S, .lst upd_same (A.rep.mono le)⟩
end

theorem compL_to {wk : Walk} {f : T → Store → Res (Option T)} {P : List T → Store → Prop} {E' : Nat → List T → Store → Prop} : ∀ (xs : List T) (m : Store), (compL wk f xs m).to P E' → (compL wk f xs m).to P (fun _ _ _ => False) := by
  intro xs
  cases xs with
  | nil => intro m h; unfold compL at h ⊢; split at h <;> split <;> simp_all [Res.to]
  | cons t r =>
    intro m h
    unfold compL at h ⊢
    split at h
    · rename_i ok
      rw [if_pos ok]
      split at h
      · split at h
        · exact h
        · exact h.elim
      · exact h.elim
    · exact h.elim
theorem compL_cons {wk : Walk} {f : T → Store → Res (Option T)} {P : List T → Store → Prop} {t : T} {r : List T} {m : Store} (h : (compL wk f (t :: r) m).to P (fun _ _ _ => False)) :
    wk.ok m = true ∧ (f t m).to (fun o m1 => (compL wk f r m1).to (fun ys m2 => P (o.toList ++ ys) m2) (fun _ _ _ => False)) (fun _ _ _ => False) := by
  unfold compL at h
  split at h
  · rename_i ok
    refine ⟨ok, ?_⟩
    cases hf : f t m with
    | stuck => rw [hf] at h; exact h.elim
    | exc c xs m' => rw [hf] at h; exact h.elim
    | ok o m1 =>
      rw [hf] at h
      simp only at h
      cases hr : compL wk f r m1 with
      | stuck => rw [hr] at h; exact h.elim
      | exc c xs m' => rw [hr] at h; exact h.elim
      | ok ys m2 =>
        rw [hr] at h
        show (compL wk f r m1).to _ _
        rw [hr]
        cases o <;> exact h
  · exact h.elim
theorem compL_nil {wk : Walk} {f : T → Store → Res (Option T)} {P : List T → Store → Prop} {m : Store} (h : (compL wk f [] m).to P (fun _ _ _ => False)) : wk.ok m = true ∧ P [] m := by
  unfold compL at h
  split at h
  · rename_i ok; exact ⟨ok, h⟩
  · exact h.elim

def W0 : WX := fun _ _ _ _ => False
section
variable {X : Cx} {hx : Option (Addr × Nat × List T)} {D : Sd} {W : WX} {pos p : Pos} {tg : Expr}
/-- the ifs of a comprehension -/
inductive JTs (X : Cx) (hx : Option (Addr × Nat × List T)) (D : Sd) (W : WX) : E → List Expr → Prop
  | nil : JTs X hx D W (.cst (.bl true)) []
  | one {c : E} {e : Expr} (h : JT X hx D W c e) : JTs X hx D W c [e]
theorem PTs_of {c : E} {es : List Expr} (h : JTs X hx D W c es) : PTs X es (tT (X.kx hx) D W c) := by
  cases h with
  | nil => exact ⟨fun pins s sg H Q I ⟨w, st, env, S, R, q⟩ => pts_nil.run pins s sg H Q I ((show okB (X.kx hx) w Q true st from q) _ _ .refl S)⟩
  | one h => exact pts_one h
/-- one turn of a comprehension: the target, the test, the element -/
def turnF (C : Ctx) (env : Env) (own : List Nat) (tg : Tgt) (c e : E) : T → Store → Res (Option T) := fun t m => (Res.ofO (tg.set m t (wipe env own)) m).bind fun env m =>
  (eval C c env m).bind fun x m => (Res.ofO (truth m x) m).bind fun r m => if r then (eval C e env m).bind fun y m => .ok (some y) m else .ok none m
theorem eval_comp {C : Ctx} {own : List Nat} {tg : Tgt} {it : It} {c e : E} {env : Env} {m : Store} : eval C (.comp own tg it c e) env m = (evalI C it env m).bind fun w m => (compL w (turnF C env own tg c e) w.xs m).bind shortL := rfl
/-- a turn, by its parts: what is wanted behind it -/
theorem turn_run {K : Kx} {w : Wd} {m : Store} {H : Hp} {env : Env} {sg : L2.St} {own : List Nat} {g : Tgt} {c e : E} {t : T} {v : V} {P : Option T → Store → Prop} {Nx : Hp → Prop} {d : Addr} {wa : Wd} {ma : Store} {Ha : Hp} {acc : List T} {vs : List V}
    (A : AccS K wa ma Ha d acc vs) (le : (wa.hold d vs).le w) (S : Sim K w m H) (R : EnvR K w env sg) (r : Rep K w t v) (hg : ∀ i ∈ g.slots, i ∈ own)
    (q : (turnF D.C env own g c e t m).to P (fun _ _ _ => False)) (bound : ∀ y m, P (some y) m → vs.length < sizeLine)
    (nxS : ∀ w' m' H' y u, wa.le w' → AccS K w' m' (upd H' d (.lst (vs ++ [u]))) d (acc ++ [y]) (vs ++ [u]) → P (some y) m' → Nx (upd H' d (.lst (vs ++ [u]))))
    (nxN : ∀ w' m' H', wa.le w' → AccS K w' m' H' d acc vs → P none m' → Nx H') :
    tG K g v (L2.wipe sg own) H fun sg2 H2 => L2.wipe sg2 own = L2.wipe sg own ∧ tT K D W0 c sg2 H2 fun b H3 =>
      if b = true then tE K D W0 e sg2 H3 fun y H4 => ∃ acc, H4 d = some (.lst acc) ∧ acc.length < sizeLine ∧ Nx (upd H4 d (.lst (acc ++ [y]))) else Nx H3 := by
  unfold turnF at q
  obtain ⟨env', he, q⟩ := Res.to_ofO (Res.to_bind q)
  refine ⟨w, m, t, _, env', S, R.wipe own, r, he, fun sg' R' _ hw => ⟨by rw [hw own hg, wipe_wipe own own sg fun _ h => h], ?_⟩⟩
  have q : ((test D.C c env' m).bind fun r m => if r then (eval D.C e env' m).bind fun y m => .ok (some y) m else .ok none m).to P (fun _ _ _ => False) := by
    have e : ((test D.C c env' m).bind fun r m => if r then (eval D.C e env' m).bind fun y m => .ok (some y) m else .ok none m) = ((eval D.C c env' m).bind fun x m => (Res.ofO (truth m x) m).bind fun r m => if r then (eval D.C e env' m).bind fun y m => .ok (some y) m else .ok none m) := by
      show ((eval D.C c env' m).bind _).bind _ = _
      rw [Res.bind_assoc]
    rw [e]; exact q
  refine ⟨w, m, env', S, R', Res.to_mono (Res.to_bind q) (fun b m1 q1 w1 H1 le1 S1 => ?_) fun _ _ _ z => z.elim⟩
  cases b with
  | true =>
    simp only [if_true] at q1 ⊢
    refine ⟨w1, m1, env', S1, R'.mono le1, Res.to_mono (Res.to_bind q1) (fun y m2 q2 w2 H2 le2 S2 u ru => ?_) fun _ _ _ z => z.elim⟩
    obtain ⟨A2, l2, l0⟩ := A.back ((le.trans le1).trans le2) S2
    exact ⟨vs, A2.at_, bound y m2 q2, nxS _ _ _ y u l2 (A2.snoc (ru.mono0 l0)) q2⟩
  | false =>
    simp only [Bool.false_eq_true, if_false] at q1 ⊢
    obtain ⟨A2, l2, l0⟩ := A.back (le.trans le1) S1
    exact nxN _ _ _ l2 A2 q1
theorem drop_cons {α : Type} {l : List α} {i : Nat} (h : i < l.length) : ∃ t, l[i]? = some t ∧ l.drop i = t :: l.drop (i + 1) := by
  exact ⟨l[i], List.getElem?_eq_getElem h, List.drop_eq_getElem_cons h⟩
/-- the loop of a comprehension with one clause -/
theorem E_comp {own : List Nat} {g : Tgt} {it : It} {c e : E} {elt iter : Expr} {ifs : List Expr} {scope : Scope} {ownS : List (Str × Nat)} (hc : X.calm = true) (hN : X.N.Nodup) (hi : JI X hx D W tg it iter) (ok : BlkOk X.N X.env.scope scope ownS) (ho : ownS.map (·.2) = own)
    (hgs : ∀ i ∈ g.slots, i ∈ own)
    (hg : ∀ (s : Shared) (H : Hp) (C : Addr) (cl : List (Str × Addr)) (fp : List Addr), PG (X.blk s H scope (compEnvC scope cl C X.env) fp) tg (tG (X.kx hx) g)) (ht : ∀ (s : Shared) (H : Hp) (C : Addr) (cl : List (Str × Addr)) (fp : List Addr), JTs (X.blk s H scope (compEnvC scope cl C X.env) fp) hx D W0 c ifs)
    (he : ∀ (s : Shared) (H : Hp) (C : Addr) (cl : List (Str × Addr)) (fp : List Addr), JE (X.blk s H scope (compEnvC scope cl C X.env) fp) hx D W0 e elt) (hs : ∀ x, foldedSetIterable iter X.env x = pure x) :
    PE X (.ListComp elt [⟨tg, iter, ifs, 0⟩] scope pos) (tLc (tI (X.kx hx) D W it) (tG (X.kx hx) g) (tT (X.kx hx) D W0 c) (tE (X.kx hx) D W0 e) own) := by
  subst ho
  exact pe_lc hc hN hi ok hg (fun s H C cl fp => PTs_of (ht s H C cl fp)) he hs
/-- what is wanted of a new list, or a tree -/
def okN (K : Kx) (w : Wd) (Q : VK) : T × Bool → Store → Prop := fun r m => aft K w m fun w' H' => ∀ v,
  (match r with
  | (t, false) => Rep K w' t v
  | (t, true) => ∃ ts a vs, t = .lst ts ∧ v = .ref a ∧ AccS K w' m H' a ts vs) → Q v H'
theorem later_okN {K : Kx} {Q : VK} : Later (fun w => okN K w Q) := fun _ _ _ _ le q => aft.mono q le
/-- a new list may be frozen -/
theorem okN_of {K : Kx} {w : Wd} {Q : VK} {r : T × Bool} {m : Store} (h : okV K w Q r.1 m) : okN K w Q r m := by
  intro w' H' le S v rv
  match r, h, rv with
  | (t, false), h, rv => exact h w' H' le S v rv
  | (t, true), h, rv =>
    obtain ⟨ts, a, vs, rfl, rfl, A⟩ := rv
    obtain ⟨w2, le2, S2, r2⟩ := A.done
    exact h w2 H' (le.trans le2) S2 _ r2
/-- the reading of a comprehension, whatever is wanted of its list -/
theorem comp_reads {K : Kx} {w : Wd} {st : Store} {env : Env} {sg : L2.St} {H : Hp} {Q : VK} {own : List Nat} {g : Tgt} {it : It} {c e : E} {F : List T → Store → Prop} (hgs : ∀ i ∈ g.slots, i ∈ own) (S : Sim K w st H) (R : EnvR K w env sg)
    (q : (evalI D.C it env st).to (fun wk m => (compL wk (turnF D.C env own g c e) wk.xs m).to (fun ys m => ys.length ≤ LINE ∧ F ys m) (fun _ _ _ => False)) (exV K D W w sg))
    (fin : ∀ w' m' H' d acc vs, w.le w' → AccS K w' m' H' d acc vs → F acc m' → Q (.ref d) H') : tLc (tI K D W it) (tG K g) (tT K D W0 c) (tE K D W0 e) own sg H Q := by
  refine ⟨w, st, env, S, R, Res.to_mono q (fun wk m1 q1 w1 H1 le1 S1 J hJ d hd => ?_) fun _ _ _ z => z⟩
  -- the state at turn i
  let P : Nat → Hp → Prop := fun i H => ∃ w2 m2 acc vs, w1.le w2 ∧ AccS K w2 m2 H d acc vs ∧
    (compL wk (turnF D.C env own g c e) (wk.xs.drop i) m2).to (fun ys m3 => (acc ++ ys).length ≤ LINE ∧ F (acc ++ ys) m3) (fun _ _ _ => False)
  refine ⟨fun i n H => n = wk.xs.length - i ∧ i ≤ wk.xs.length ∧ P i H, ⟨_, rfl, Nat.zero_le _, w1, m1, [], [], .refl, AccS.new S1 hd, ?_⟩, ?_⟩
  · rw [List.drop_zero]
    exact q1
  · rintro i n H' ⟨rfl, hi, w2, m2, acc, vs, le2, A, q2⟩
    by_cases hlt : i < wk.xs.length
    · obtain ⟨t, ht, hdr⟩ := drop_cons hlt
      rw [hdr] at q2
      obtain ⟨okk, q3⟩ := compL_cons q2
      obtain ⟨hgo, hst⟩ := hJ (w2.hold d vs) m2 H' (le2.to0.trans Wd.hold_le0) A.held okk
      obtain ⟨go, yl⟩ := hgo i t ht
      refine .inr ⟨go, P (i + 1), fun H2 p => ⟨_, by omega, rfl, hlt, p⟩, fun x H2 y => ?_⟩
      obtain ⟨w3, le3, S3, r3⟩ := yl x H2 y
      refine turn_run A le3 S3 ((R.mono0 (le1.to0.trans le2.to0)).mono0 (Wd.hold_le0.trans le3.to0)) r3 hgs q3 (fun y m p => ?_) (fun w' m' H3 y u l' A' p => ?_) fun w' m' H3 l' A' p => ?_
      · rw [LINE_eq, ← A.rep.length]
        cases hcl : compL wk (turnF D.C env own g c e) (wk.xs.drop (i + 1)) m with
        | stuck => rw [hcl] at p; exact p.elim
        | exc c' xs m' => rw [hcl] at p; exact p.elim
        | ok ys m3 =>
          rw [hcl] at p
          have := p.1
          simp only [Option.toList, List.length_append, List.length_cons, List.length_nil] at this
          omega
      · refine ⟨w', m', _, _, le2.trans l', A', Res.to_mono p (fun ys m3 h => ?_) fun _ _ _ z => z⟩
        simpa [List.append_assoc] using h
      · exact ⟨w', m', _, _, le2.trans l', A', Res.to_mono p (fun ys m3 h => by simpa using h) fun _ _ _ z => z⟩
    · have e : i = wk.xs.length := by omega
      subst e
      rw [List.drop_length] at q2
      obtain ⟨okk, hl, q3⟩ := compL_nil q2
      obtain ⟨_, hst⟩ := hJ w2 m2 H' le2.to0 A.sim okk
      rw [List.append_nil] at q3
      exact .inl ⟨hst, fin w2 m2 H' d acc vs (le1.trans le2) A q3⟩
theorem short_to {ys : List T} {m : Store} {P : T → Store → Prop} {E' : Nat → List T → Store → Prop} (h : (shortL ys m).to P E') : ys.length ≤ LINE ∧ P (.lst ys) m := by
  unfold shortL at h
  split at h
  · rename_i hl; exact ⟨hl, h⟩
  · exact h.elim
theorem comp_tE {own : List Nat} {g : Tgt} {it : It} {c e : E} (hgs : ∀ i ∈ g.slots, i ∈ own) (K : Kx) (sg : L2.St) (H : Hp) (Q : VK) (q : tE K D W (.comp own g it c e) sg H Q) : tLc (tI K D W it) (tG K g) (tT K D W0 c) (tE K D W0 e) own sg H Q := by
  obtain ⟨w, st, env, S, R, q⟩ := q
  rw [eval_comp] at q
  refine comp_reads (F := fun ys m => okV K w Q (.lst ys) m) hgs S R (Res.to_mono (Res.to_bind q) (fun wk m1 q1 => Res.to_mono (compL_to _ _ (Res.to_bind q1)) (fun ys m h => short_to h) fun _ _ _ z => z) fun _ _ _ z => z) fun w' m' H' d acc vs le A h => ?_
  obtain ⟨w4, le4, S4, r4⟩ := A.done
  exact h w4 H' (le.trans le4) S4 _ r4
theorem compLs_to {wk : Walk} {f : T → Store → Res (List T)} {P : List T → Store → Prop} {E' : Nat → List T → Store → Prop} : ∀ (xs : List T) (m : Store), (compLs wk f xs m).to P E' → (compLs wk f xs m).to P (fun _ _ _ => False) := by
  intro xs
  cases xs with
  | nil => intro m h; unfold compLs at h ⊢; split at h <;> split <;> simp_all [Res.to]
  | cons t r =>
    intro m h
    unfold compLs at h ⊢
    split at h
    · rename_i ok
      rw [if_pos ok]
      split at h
      · split at h
        · exact h
        · exact h.elim
      · exact h.elim
    · exact h.elim
theorem compLs_cons {wk : Walk} {f : T → Store → Res (List T)} {P : List T → Store → Prop} {t : T} {r : List T} {m : Store} (h : (compLs wk f (t :: r) m).to P (fun _ _ _ => False)) :
    wk.ok m = true ∧ (f t m).to (fun os m1 => (compLs wk f r m1).to (fun ys m2 => P (os ++ ys) m2) (fun _ _ _ => False)) (fun _ _ _ => False) := by
  unfold compLs at h
  split at h
  · rename_i ok
    refine ⟨ok, ?_⟩
    cases hf : f t m with
    | stuck => rw [hf] at h; exact h.elim
    | exc c xs m' => rw [hf] at h; exact h.elim
    | ok o m1 =>
      rw [hf] at h
      simp only at h
      cases hr : compLs wk f r m1 with
      | stuck => rw [hr] at h; exact h.elim
      | exc c xs m' => rw [hr] at h; exact h.elim
      | ok ys m2 =>
        rw [hr] at h
        show (compLs wk f r m1).to _ _
        rw [hr]
        exact h
  · exact h.elim
theorem compLs_nil {wk : Walk} {f : T → Store → Res (List T)} {P : List T → Store → Prop} {m : Store} (h : (compLs wk f [] m).to P (fun _ _ _ => False)) : wk.ok m = true ∧ P [] m := by
  unfold compLs at h
  split at h
  · rename_i ok; exact ⟨ok, h⟩
  · exact h.elim
/-- the second clause -/
def innerF (C : Ctx) (env : Env) (own2 : List Nat) (tg2 : Tgt) (it2 : It) (c2 e : E) : Store → Res (List T) := fun m => (evalI C it2 env m).bind fun w2 m => compL w2 (turnF C env own2 tg2 c2 e) w2.xs m
def outerF (C : Ctx) (env : Env) (own : List Nat) (tg : Tgt) (c : E) (own2 : List Nat) (tg2 : Tgt) (it2 : It) (c2 e : E) : T → Store → Res (List T) := fun t m => (Res.ofO (tg.set m t (wipe env own)) m).bind fun env m =>
  (eval C c env m).bind fun x m => (Res.ofO (truth m x) m).bind fun r m => if r then innerF C env own2 tg2 it2 c2 e m else .ok [] m
theorem eval_comp2 {C : Ctx} {own : List Nat} {tg : Tgt} {it : It} {c : E} {own2 : List Nat} {tg2 : Tgt} {it2 : It} {c2 e : E} {env : Env} {m : Store} :
    eval C (.comp2 own tg it c own2 tg2 it2 c2 e) env m = (evalI C it env m).bind fun w m => (compLs w (outerF C env own tg c own2 tg2 it2 c2 e) w.xs m).bind shortL := rfl
theorem outer_to {C : Ctx} {env : Env} {own : List Nat} {tg : Tgt} {c : E} {own2 : List Nat} {tg2 : Tgt} {it2 : It} {c2 e : E} {t : T} {m : Store} {P : List T → Store → Prop} {F : Nat → List T → Store → Prop}
    (q : (outerF C env own tg c own2 tg2 it2 c2 e t m).to P F) : ∃ env', tg.set m t (wipe env own) = some env' ∧ ((test C c env' m).bind fun r m => if r then innerF C env' own2 tg2 it2 c2 e m else .ok [] m).to P F := by
  obtain ⟨env', he, q⟩ := Res.to_ofO (Res.to_bind q)
  refine ⟨env', he, ?_⟩
  have e : ((test C c env' m).bind fun r m => if r then innerF C env' own2 tg2 it2 c2 e m else .ok [] m) = ((eval C c env' m).bind fun x m => (Res.ofO (truth m x) m).bind fun r m => if r then innerF C env' own2 tg2 it2 c2 e m else .ok [] m) := by
    show ((eval C c env' m).bind _).bind _ = _
    rw [Res.bind_assoc]
  rw [e]; exact q
/-- what a loop's reading asks: from its first turn on -/
def LoopTo (J : L2.It) (H0 : Hp) (Nx : Hp → Prop) (turn : (Hp → Prop) → V → Hp → Prop) : Prop := ∃ W1 : Nat → Nat → Hp → Prop, (∃ m, W1 0 m H0) ∧ ∀ j k H, W1 j k H →
  (J.stop j H ∧ Nx H) ∨ (J.go j H ∧ ∃ Nx1 : Hp → Prop, (∀ H', Nx1 H' → ∃ k', k' < k ∧ W1 (j + 1) k' H') ∧ ∀ x H', J.yld j H x H' → turn Nx1 x H')
theorem inner_run {K : Kx} {w : Wd} {m : Store} {H : Hp} {env : Env} {sg : L2.St} {own2 : List Nat} {g2 : Tgt} {it2 : It} {c2 e : E} {P : List T → Store → Prop} {Nx : Hp → Prop} {d : Addr} {wa : Wd} {ma : Store} {Ha : Hp} {acc : List T} {vs : List V}
    (A : AccS K wa ma Ha d acc vs) (le : (wa.hold d vs).le w) (S : Sim K w m H) (R : EnvR K w env sg) (hg : ∀ i ∈ g2.slots, i ∈ own2)
    (q : (innerF D.C env own2 g2 it2 c2 e m).to P (fun _ _ _ => False)) (bound : ∀ os m, P os m → acc.length + os.length ≤ LINE)
    (nx : ∀ w' m' H' os vs', wa.le w' → AccS K w' m' H' d (acc ++ os) vs' → P os m' → Nx H') :
    tI K D W0 it2 sg H fun J1 H4 => LoopTo J1 H4 Nx fun Nx1 x H' => tG K g2 x (L2.wipe sg own2) H' fun sg3 H5 => L2.wipe sg3 own2 = L2.wipe sg own2 ∧ tT K D W0 c2 sg3 H5 fun b H6 =>
      if b = true then tE K D W0 e sg3 H6 fun y H7 => ∃ acc, H7 d = some (.lst acc) ∧ acc.length < sizeLine ∧ Nx1 (upd H7 d (.lst (acc ++ [y]))) else Nx1 H6 := by
  refine ⟨w, m, env, S, R, Res.to_mono (Res.to_bind q) (fun wk m1 q1 w1 H1 le1 S1 J hJ => ?_) fun _ _ _ z => z.elim⟩
  obtain ⟨A1, l1, l0⟩ := A.back (le.trans le1) S1
  let P1 : Nat → Hp → Prop := fun j H => ∃ w2 m2 acc2 vs2, wa.le w2 ∧ w1.le0 w2 ∧ AccS K w2 m2 H d (acc ++ acc2) vs2 ∧
    (compL wk (turnF D.C env own2 g2 c2 e) (wk.xs.drop j) m2).to (fun ys m3 => P (acc2 ++ ys) m3) (fun _ _ _ => False)
  refine ⟨fun j k H => k = wk.xs.length - j ∧ j ≤ wk.xs.length ∧ P1 j H, ⟨_, rfl, Nat.zero_le _, _, m1, [], vs, l1, l0, by rw [List.append_nil]; exact A1, by rw [List.drop_zero]; exact q1⟩, ?_⟩
  rintro j k H' ⟨rfl, hj, w2, m2, acc2, vs2, le2, le20, A2, q2⟩
  by_cases hlt : j < wk.xs.length
  · obtain ⟨t, ht, hdr⟩ := drop_cons hlt
    rw [hdr] at q2
    obtain ⟨okk, q3⟩ := compL_cons q2
    obtain ⟨hgo, hst⟩ := hJ (w2.hold d vs2) m2 H' (le20.trans Wd.hold_le0) A2.held okk
    obtain ⟨go, yl⟩ := hgo j t ht
    refine .inr ⟨go, P1 (j + 1), fun H2 p => ⟨_, by omega, rfl, hlt, p⟩, fun x H2 y => ?_⟩
    obtain ⟨w3, le3, S3, r3⟩ := yl x H2 y
    refine turn_run A2 le3 S3 ((R.mono0 (le1.to0.trans le20)).mono0 (Wd.hold_le0.trans le3.to0)) r3 hg q3 (fun y m p => ?_) (fun w' m' H3 y u l' A' p => ?_) fun w' m' H3 l' A' p => ?_
    · rw [LINE_eq, ← A2.rep.length]
      cases hcl : compL wk (turnF D.C env own2 g2 c2 e) (wk.xs.drop (j + 1)) m with
      | stuck => rw [hcl] at p; exact p.elim
      | exc c' xs m' => rw [hcl] at p; exact p.elim
      | ok ys m3 =>
        rw [hcl] at p
        have := bound _ _ p
        simp only [Option.toList, List.length_append, List.length_cons, List.length_nil] at this
        rw [List.length_append]
        omega
    · refine ⟨w', m', acc2 ++ [y], _, le2.trans l', le20.trans l'.to0, by rw [← List.append_assoc]; exact A', Res.to_mono p (fun ys m3 h => ?_) fun _ _ _ z => z⟩
      simpa [List.append_assoc] using h
    · exact ⟨w', m', acc2, _, le2.trans l', le20.trans l'.to0, A', Res.to_mono p (fun ys m3 h => by simpa using h) fun _ _ _ z => z⟩
  · have e : j = wk.xs.length := by omega
    subst e
    rw [List.drop_length] at q2
    obtain ⟨okk, q3⟩ := compL_nil q2
    obtain ⟨_, hst⟩ := hJ w2 m2 H' le20 A2.sim okk
    rw [List.append_nil] at q3
    exact .inl ⟨hst, nx _ _ _ _ _ le2 A2 q3⟩
theorem E_comp2 {own : List Nat} {g : Tgt} {it : It} {c : E} {own2 : List Nat} {g2 : Tgt} {it2 : It} {c2 e : E} {elt iter iter1 tg1 : Expr} {ifs ifs1 : List Expr} {scope : Scope} {ownS : List (Str × Nat)} (hc : X.calm = true) (hN : X.N.Nodup) (hi : JI X hx D W tg it iter) (ok : BlkOk X.N X.env.scope scope ownS) (ho : ownS.map (·.2) = own)
    (hv : ∀ i ∈ own2, i ∈ own) (hgs : ∀ i ∈ g.slots, i ∈ own) (hgs2 : ∀ i ∈ g2.slots, i ∈ own2)
    (hg : ∀ (s : Shared) (H : Hp) (C : Addr) (cl : List (Str × Addr)) (fp : List Addr), PG (X.blk s H scope (compEnvC scope cl C X.env) fp) tg (tG (X.kx hx) g)) (ht : ∀ (s : Shared) (H : Hp) (C : Addr) (cl : List (Str × Addr)) (fp : List Addr), JTs (X.blk s H scope (compEnvC scope cl C X.env) fp) hx D W0 c ifs)
    (hi1 : ∀ (s : Shared) (H : Hp) (C : Addr) (cl : List (Str × Addr)) (fp : List Addr), JI (X.blk s H scope (compEnvC scope cl C X.env) fp) hx D W0 tg1 it2 iter1)
    (hg1 : ∀ (s : Shared) (H : Hp) (C : Addr) (cl : List (Str × Addr)) (fp : List Addr), PG (X.blk s H scope (compEnvC scope cl C X.env) fp) tg1 (tG (X.kx hx) g2)) (ht1 : ∀ (s : Shared) (H : Hp) (C : Addr) (cl : List (Str × Addr)) (fp : List Addr), JTs (X.blk s H scope (compEnvC scope cl C X.env) fp) hx D W0 c2 ifs1)
    (he : ∀ (s : Shared) (H : Hp) (C : Addr) (cl : List (Str × Addr)) (fp : List Addr), JE (X.blk s H scope (compEnvC scope cl C X.env) fp) hx D W0 e elt) (hs : ∀ x, foldedSetIterable iter X.env x = pure x) (hs1 : ∀ env x, foldedSetIterable iter1 env x = pure x) :
    PE X (.ListComp elt [⟨tg, iter, ifs, 0⟩, ⟨tg1, iter1, ifs1, 0⟩] scope pos) (tLc2 (tI (X.kx hx) D W it) (tG (X.kx hx) g) (tT (X.kx hx) D W0 c) (tI (X.kx hx) D W0 it2) (tG (X.kx hx) g2) (tT (X.kx hx) D W0 c2) (tE (X.kx hx) D W0 e) own own2) := by
  subst ho
  exact pe_lc2 hc hN hi ok hv hg (fun s H C cl fp => PTs_of (ht s H C cl fp)) hi1 hg1 (fun s H C cl fp => PTs_of (ht1 s H C cl fp)) he hs hs1
theorem comp2_reads {K : Kx} {w : Wd} {st : Store} {env : Env} {sg : L2.St} {H : Hp} {Q : VK} {own : List Nat} {g : Tgt} {it : It} {c : E} {own2 : List Nat} {g2 : Tgt} {it2 : It} {c2 e : E} {F : List T → Store → Prop} (hgs : ∀ i ∈ g.slots, i ∈ own) (hgs2 : ∀ i ∈ g2.slots, i ∈ own2) (S : Sim K w st H) (R : EnvR K w env sg)
    (q : (evalI D.C it env st).to (fun wk m => (compLs wk (outerF D.C env own g c own2 g2 it2 c2 e) wk.xs m).to (fun ys m => ys.length ≤ LINE ∧ F ys m) (fun _ _ _ => False)) (exV K D W w sg))
    (fin : ∀ w' m' H' d acc vs, w.le w' → AccS K w' m' H' d acc vs → F acc m' → Q (.ref d) H') : tLc2 (tI K D W it) (tG K g) (tT K D W0 c) (tI K D W0 it2) (tG K g2) (tT K D W0 c2) (tE K D W0 e) own own2 sg H Q := by
  refine ⟨w, st, env, S, R, Res.to_mono q (fun wk m1 q1 w1 H1 le1 S1 J hJ d hd => ?_) fun _ _ _ z => z⟩
  let P : Nat → Hp → Prop := fun i H => ∃ w2 m2 acc vs, w1.le w2 ∧ AccS K w2 m2 H d acc vs ∧
    (compLs wk (outerF D.C env own g c own2 g2 it2 c2 e) (wk.xs.drop i) m2).to (fun ys m3 => (acc ++ ys).length ≤ LINE ∧ F (acc ++ ys) m3) (fun _ _ _ => False)
  refine ⟨fun i n H => n = wk.xs.length - i ∧ i ≤ wk.xs.length ∧ P i H, ⟨_, rfl, Nat.zero_le _, w1, m1, [], [], .refl, AccS.new S1 hd, ?_⟩, ?_⟩
  · rw [List.drop_zero]
    exact q1
  · rintro i n H' ⟨rfl, hi, w2, m2, acc, vs, le2, A, q2⟩
    by_cases hlt : i < wk.xs.length
    · obtain ⟨t, ht, hdr⟩ := drop_cons hlt
      rw [hdr] at q2
      obtain ⟨okk, q3⟩ := compLs_cons q2
      obtain ⟨hgo, hst⟩ := hJ (w2.hold d vs) m2 H' (le2.to0.trans Wd.hold_le0) A.held okk
      obtain ⟨go, yl⟩ := hgo i t ht
      refine .inr ⟨go, P (i + 1), fun H2 p => ⟨_, by omega, rfl, hlt, p⟩, fun x H2 y => ?_⟩
      obtain ⟨w3, le3, S3, r3⟩ := yl x H2 y
      obtain ⟨env', he, q3⟩ := outer_to q3
      have R3 := (R.mono0 (le1.to0.trans le2.to0)).mono0 (Wd.hold_le0.trans le3.to0)
      refine ⟨w3, m2, t, _, env', S3, R3.wipe own, r3, he, fun sg' R' _ hw => ⟨by rw [hw own hgs, wipe_wipe own own sg fun _ h => h], ?_⟩⟩
      refine ⟨w3, m2, env', S3, R', Res.to_mono (Res.to_bind q3) (fun b m4 q4 w4 H4 le4 S4 => ?_) fun _ _ _ z => z.elim⟩
      cases b with
      | true =>
        simp only [if_true] at q4 ⊢
        refine inner_run A (le3.trans le4) S4 (R'.mono le4) hgs2 q4 (fun os m p => ?_) fun w' m' H5 os vs' l' A' p => ?_
        · cases hcl : compLs wk (outerF D.C env own g c own2 g2 it2 c2 e) (wk.xs.drop (i + 1)) m with
          | stuck => rw [hcl] at p; exact p.elim
          | exc c' xs m' => rw [hcl] at p; exact p.elim
          | ok ys m5 =>
            rw [hcl] at p
            have := p.1
            simp only [List.length_append] at this
            omega
        · refine ⟨w', m', _, _, le2.trans l', A', Res.to_mono p (fun ys m3 h => ?_) fun _ _ _ z => z⟩
          simpa [List.append_assoc] using h
      | false =>
        simp only [Bool.false_eq_true, if_false] at q4 ⊢
        obtain ⟨A2, l2, l0⟩ := A.back (le3.trans le4) S4
        exact ⟨_, m4, _, _, le2.trans l2, A2, Res.to_mono q4 (fun ys m3 h => by simpa using h) fun _ _ _ z => z⟩
    · have e : i = wk.xs.length := by omega
      subst e
      rw [List.drop_length] at q2
      obtain ⟨okk, hl, q3⟩ := compLs_nil q2
      obtain ⟨_, hst⟩ := hJ w2 m2 H' le2.to0 A.sim okk
      rw [List.append_nil] at q3
      exact .inl ⟨hst, fin w2 m2 H' d acc vs (le1.trans le2) A q3⟩
theorem comp2_tE {own : List Nat} {g : Tgt} {it : It} {c : E} {own2 : List Nat} {g2 : Tgt} {it2 : It} {c2 e : E} (hgs : ∀ i ∈ g.slots, i ∈ own) (hgs2 : ∀ i ∈ g2.slots, i ∈ own2) (K : Kx) (sg : L2.St) (H : Hp) (Q : VK) (q : tE K D W (.comp2 own g it c own2 g2 it2 c2 e) sg H Q) :
    tLc2 (tI K D W it) (tG K g) (tT K D W0 c) (tI K D W0 it2) (tG K g2) (tT K D W0 c2) (tE K D W0 e) own own2 sg H Q := by
  obtain ⟨w, st, env, S, R, q⟩ := q
  rw [eval_comp2] at q
  refine comp2_reads (F := fun ys m => okV K w Q (.lst ys) m) hgs hgs2 S R (Res.to_mono (Res.to_bind q) (fun wk m1 q1 => Res.to_mono (compLs_to _ _ (Res.to_bind q1)) (fun ys m h => short_to h) fun _ _ _ z => z) fun _ _ _ z => z) fun w' m' H' d acc vs le A h => ?_
  obtain ⟨w4, le4, S4, r4⟩ := A.done
  exact h w4 H' (le.trans le4) S4 _ r4
end
end MP
end

section
set_option Elab.async false
set_option linter.all false
set_option maxRecDepth 100000
/-! MP9: calls of own defs, methods, statements. -/
namespace MP
open PySem PySem.Spec PyProof.Rows L2

/-- a def's promise: what the evaluator says -/
def spT (K : Kx) (D : Sd) (f : Nat) : Sp := fun vs H Q E => ∃ w m ts, Sim K w m H ∧ Reps K w ts vs ∧
  (D.C.call f ts m).to (okN K w Q) (fun c xs m' => aft K w m' fun w' H' => ∀ cls d, ExcR D c xs cls d → E cls d H')
section
variable {X : Cx} {hx : Option (Addr × Nat × List T)} {D : Sd} {W : WX} {pos p : Pos}
theorem E_callF {f : Nat} {args : EL} {ds : List T} {dvs : List V} {dvl : List Value} {k : Nat} {fa : Addr} {fd : FuncData} {ps : List Str} {x : Str} {e : Expr} {es : List Expr} (F : FnOk X.prog X.w X.K X.mg X.base (L2N.CX X.prog X.w) k fa fd ps (spT (X.kx none) D f)) (hr : Room k X.A) (hg : Gl X x) (hm : X.mg x = some (.ref fa))
    (hk : PySem.W.keepIn X.K (.ref fa) = true) (hb : Binds X.K fd ps dvl) (hd : Vals dvs dvl) (hds : ∀ w, Reps (X.kx none) w ds dvs) (tk : L2N.Takes X W) (ha : JA X none D W args (e :: es)) (hdb : (x == ("__debug__" : Str)) = false)
    (he : starEach (e :: es) X.env = (false, PySem.eval e X.env) :: starEach es X.env) (hpl : (backTo pos (starEach es X.env)).any (·.1) = false) :
    PE X (.Call (.Name x p) (e :: es) [] pos) (tCallSD (spT (X.kx none) D f) dvs (fun sg cls d H => W cls d sg H) (tA (X.kx none) D W args)) :=
  pe_callSD F hr hg hm hk hb hd (fun sg => L2N.passAt tk sg) ha hdb he hpl
theorem E_callF0 {f : Nat} {ds : List T} {dvs : List V} {dvl : List Value} {k : Nat} {fa : Addr} {fd : FuncData} {ps : List Str} {x : Str} (F : FnOk X.prog X.w X.K X.mg X.base (L2N.CX X.prog X.w) k fa fd ps (spT (X.kx none) D f)) (hr : Room k X.A) (hg : Gl X x) (hm : X.mg x = some (.ref fa))
    (hk : PySem.W.keepIn X.K (.ref fa) = true) (hb : Binds X.K fd ps dvl) (hd : Vals dvs dvl) (tk : L2N.Takes X W) (hdb : (x == ("__debug__" : Str)) = false) :
    PE X (.Call (.Name x p) [] [] pos) (tCallSD (spT (X.kx none) D f) dvs (fun sg cls d H => W cls d sg H) (tA (X.kx none) D W .nil)) := by
  refine ⟨fun pins s sg H Q I h => ?_⟩
  obtain ⟨w, m, env, S, R, q⟩ := h
  refine wpAny_Call_Name_kw (ld_glob I hg hm ?_ hdb)
  exact PySem.W.callWith_K0 I.kIn hk (run_fnSD (E := fun sg cls d H => W cls d sg H) (us := []) F hr hb hd (L2N.passAt tk sg) I .nil ((show okL (X.kx none) w _ [] m from q) _ _ .refl S _ .nil))
theorem callF_reads {K : Kx} {f : Nat} {args : EL} {ds : List T} {dvs : List V} {sg : L2.St} {H : Hp} {Q : VK} {w : Wd} {m : Store} {env : Env} (hds : ∀ w, Reps K w ds dvs) (S : Sim K w m H) (R : EnvR K w env sg)
    (q : ((evals D.C args env m).bind fun xs m => D.C.call f (xs ++ ds) m).to (okN K w Q) (exV K D W w sg)) : tCallSD (spT K D f) dvs (fun sg cls d H => W cls d sg H) (tA K D W args) sg H Q := by
  refine tA_one S R q fun ts m' w' H' vs le S' r q => ?_
  refine ⟨w', m', ts ++ ds, S', r.append (hds w'), Res.to_mono q (fun a m h => later_okN _ _ _ _ le h) fun c xs m h => ?_⟩
  exact fun w2 H2 le2 S2 cls d e => h w2 H2 (le.trans le2) S2 cls d e
theorem callF_tE {K : Kx} {f : Nat} {args : EL} {ds : List T} {dvs : List V} (hds : ∀ w, Reps K w ds dvs) (sg : L2.St) (H : Hp) (Q : VK) (q : tE K D W (.callF f args ds) sg H Q) : tCallSD (spT K D f) dvs (fun sg cls d H => W cls d sg H) (tA K D W args) sg H Q := by
  obtain ⟨w, m, env, S, R, q⟩ := q
  refine callF_reads hds S R ?_
  have q := Res.to_bind (show ((evals D.C args env m).bind fun xs m => (D.C.call f (xs ++ ds) m).bind fun r m => .ok r.1 m).to _ _ from q)
  have e : ((evals D.C args env m).bind fun xs m => D.C.call f (xs ++ ds) m).to (okN K w Q) (exV K D W w sg) := by
    cases he : evals D.C args env m with
    | stuck => rw [he] at q; exact q.elim
    | exc c xs m' => rw [he] at q; exact q
    | ok xs m' =>
      rw [he] at q
      exact Res.to_mono (Res.to_bind (show ((D.C.call f (xs ++ ds) m').bind fun r m => .ok r.1 m).to _ _ from q)) (fun r m h => okN_of h) fun _ _ _ h => h
  exact e

/-! ### values that are new -/
def tN (K : Kx) (D : Sd) (W : WX) (e : E) : TE := fun sg H Q => ∃ w m env, Sim K w m H ∧ EnvR K w env sg ∧ (evalNew D.C e env m).to (okN K w Q) (exV K D W w sg)
abbrev JN (X : Cx) (hx : Option (Addr × Nat × List T)) (D : Sd) (W : WX) (m : E) (e : Expr) : Prop := PE X e (tN (X.kx hx) D W m)
theorem new_of {K : Kx} {r : Res T} {w : Wd} {Q : VK} {sg : L2.St} (h : (r.bind fun t m => .ok (t, true) m).to (okN K w Q) (exV K D W w sg)) : r.to (fun t m => okN K w Q (t, true) m) (exV K D W w sg) := Res.to_bind h
theorem N_list {es : EL} {ee : List Expr} (h : JA X hx D W es ee) : JN X hx D W (.list es) (.List ee pos) := by
  refine PE.imp (pe_lst h) fun sg H Q ⟨w, st, env, S, R, q⟩ => ?_
  have q := new_of (r := (evals D.C es env st).bind shortL) q
  refine tA_one S R (p := fun t m => okN (X.kx hx) w Q (t, true) m) (f := shortL) q fun ts m' w' H' vs le S' r q => ?_
  obtain ⟨hl, q⟩ := short_to q
  refine ⟨by rw [LINE_eq, ← r.length]; exact hl, fun p hp => ?_⟩
  obtain ⟨z1, z2, z3⟩ := S'.fresh hp
  exact q w' _ le (S'.new hp) _ ⟨ts, p, vs, rfl, rfl, S'.new hp, upd_same, z1, z2, z3, r⟩
theorem comp_tN {own : List Nat} {g : Tgt} {it : It} {c e : E} (hgs : ∀ i ∈ g.slots, i ∈ own) (K : Kx) (sg : L2.St) (H : Hp) (Q : VK) (q : tN K D W (.comp own g it c e) sg H Q) : tLc (tI K D W it) (tG K g) (tT K D W0 c) (tE K D W0 e) own sg H Q := by
  obtain ⟨w, st, env, S, R, q⟩ := q
  have q := new_of (r := eval D.C (.comp own g it c e) env st) q
  rw [eval_comp] at q
  refine comp_reads (F := fun ys m => okN K w Q (.lst ys, true) m) hgs S R (Res.to_mono (Res.to_bind q) (fun wk m1 q1 => Res.to_mono (compL_to _ _ (Res.to_bind q1)) (fun ys m h => short_to h) fun _ _ _ z => z) fun _ _ _ z => z) fun w' m' H' d acc vs le A h => ?_
  exact h w' H' le A.sim _ ⟨acc, d, vs, rfl, rfl, A⟩
theorem comp2_tN {own : List Nat} {g : Tgt} {it : It} {c : E} {own2 : List Nat} {g2 : Tgt} {it2 : It} {c2 e : E} (hgs : ∀ i ∈ g.slots, i ∈ own) (hgs2 : ∀ i ∈ g2.slots, i ∈ own2) (K : Kx) (sg : L2.St) (H : Hp) (Q : VK) (q : tN K D W (.comp2 own g it c own2 g2 it2 c2 e) sg H Q) :
    tLc2 (tI K D W it) (tG K g) (tT K D W0 c) (tI K D W0 it2) (tG K g2) (tT K D W0 c2) (tE K D W0 e) own own2 sg H Q := by
  obtain ⟨w, st, env, S, R, q⟩ := q
  have q := new_of (r := eval D.C (.comp2 own g it c own2 g2 it2 c2 e) env st) q
  rw [eval_comp2] at q
  refine comp2_reads (F := fun ys m => okN K w Q (.lst ys, true) m) hgs hgs2 S R (Res.to_mono (Res.to_bind q) (fun wk m1 q1 => Res.to_mono (compLs_to _ _ (Res.to_bind q1)) (fun ys m h => short_to h) fun _ _ _ z => z) fun _ _ _ z => z) fun w' m' H' d acc vs le A h => ?_
  exact h w' H' le A.sim _ ⟨acc, d, vs, rfl, rfl, A⟩
theorem callF_tN {K : Kx} {f : Nat} {args : EL} {ds : List T} {dvs : List V} (hds : ∀ w, Reps K w ds dvs) (sg : L2.St) (H : Hp) (Q : VK) (q : tN K D W (.callF f args ds) sg H Q) : tCallSD (spT K D f) dvs (fun sg cls d H => W cls d sg H) (tA K D W args) sg H Q := by
  obtain ⟨w, m, env, S, R, q⟩ := q
  exact callF_reads hds S R q
/-- list(x), the list new -/
theorem call_list_new : CallR X (.type "list") (fun xs H Q => ∃ w m ts r, Sim (X.kx hx) w m H ∧ Reps (X.kx hx) w ts xs ∧ biT m .list ts = some r ∧ okN (X.kx hx) w Q (r, true) m) := by
  intro pins s sg H xs us Q I rx ⟨w, m, ts, r, S, rv, e, q⟩
  match ts, e, rv with
  | [], e, _ => simp [biT] at e
  | _ :: _ :: _, e, _ => simp [biT] at e
  | [t], e, rv =>
    obtain ⟨v, rfl, ra⟩ := one_arg rv rfl
    have fin : ∀ (xs : List T) (vs : List V), r = .lst xs → Reps (X.kx hx) w xs vs → ∀ z, H z = none → Q (.ref z) (upd H z (.lst vs)) := by
      rintro xs vs rfl rp z hz
      obtain ⟨z1, z2, z3⟩ := S.fresh hz
      exact q w _ .refl (S.new hz) _ ⟨xs, z, vs, rfl, rfl, S.new hz, upd_same, z1, z2, z3, rp⟩
    have lst : ∀ xs : List T, vwL m t = some xs → T.lst xs = r → wpAny (model X.prog X.w) X.A (call (.type "list") us) (EP X pins sg Q) X.xe s := by
      intro xs h1 h2
      obtain ⟨p, vs, rfl, hp, rp⟩ := vwL_rep S ra h1
      exact call_list_of pins s sg H _ us Q I rx ⟨p, vs, rfl, .inl (.of hp), fin xs vs h2.symm rp⟩
    cases ra with
    | @tup p vs xs hp rp =>
      simp only [biT, Option.some.injEq] at e
      exact call_list_of pins s sg H _ us Q I rx ⟨p, vs, rfl, .inr (.of (S.z _ _ hp)), fin xs vs e.symm rp⟩
    | @scr p l hp =>
      simp only [biT, Option.some.injEq] at e
      exact call_list_of pins s sg H _ us Q I rx ⟨p, _, rfl, .inl (MP.SqL.sub hp S.z), fin _ _ e.symm (ints_reps l)⟩
    | @lst p vs xs hp rp => exact lst xs rfl (by simpa [biT, vwL] using e)
    | @obj n p hn =>
      cases hm : m[n]? with
      | none => simp [biT, vwL, hm] at e
      | some c =>
        cases c with
        | lst xs => exact lst xs (by simp [vwL, hm]) (by simpa [biT, vwL, hm] using e)
        | _ => simp [biT, vwL, hm] at e
    | _ => simp [biT, vwL] at e
theorem N_callList {args : EL} {e : Expr} {es : List Expr} {x : Str} (hg : Gl X x) (hm : X.mg x = none) (hv : bootBuiltins x = some (.type "list")) (ha : JA X hx D W args (e :: es)) (hn : x ≠ "__name__") (hdb : (x == ("__debug__" : Str)) = false)
    (he : starEach (e :: es) X.env = (false, PySem.eval e X.env) :: starEach es X.env) (hpl : (backTo pos (starEach es X.env)).any (·.1) = false) : JN X hx D W (.callB .list args) (.Call (.Name x p) (e :: es) [] pos) := by
  refine PE.imp (pe_callTy (call_list_new (hx := hx)) hg hm hv ha hn hdb he hpl) fun sg H Q ⟨w, st, env, S, R, q⟩ => ?_
  have q := new_of (r := (evals D.C args env st).bind fun xs m => .ofO (biT m .list xs) m) q
  refine tA_one S R (p := fun t m => okN (X.kx hx) w Q (t, true) m) (f := fun xs m => .ofO (biT m .list xs) m) q fun ts m' w' H' vs le S' r q => ?_
  obtain ⟨z, hz, q⟩ := Res.to_ofO q
  exact ⟨w', m', ts, z, S', r, hz, later_okN _ _ _ _ le q⟩

/-! ### methods -/
theorem E_mut {f : Mt} {o : E} {args : EL} {eo e : Expr} {es : List Expr} {name : Str} {id : String} {apos cpos : Pos} (slot : Slot "list" name id) (hty : typeOf (.builtin id) = pure (.type "method_descriptor")) (hm : MtR X id (rMut (X.kx hx) f)) (hf : ∀ m x, mtOk m f x = (vwL m x).isSome)
    (ho : JE X hx D W o eo) (ha : JA X hx D W args (e :: es)) (hbase : attributeBase eo name X.env (PySem.eval eo X.env) = PySem.eval eo X.env)
    (hfew : ((backTo cpos (starEach (e :: es) X.env)).all (fun x => !x.1) && (backToKw cpos (keywordEach [] X.env)).all (fun x => x.1.isSome) && decide ((e :: es).length + ([] : List Keyword).length + (if ([] : List Keyword).isEmpty then 0 else 1) < 30)) = true)
    (hline : (apos.endLine == cpos.line) = true) (hs : starEach (e :: es) X.env = (false, PySem.eval e X.env) :: starEach es X.env) (hplain : (backTo cpos (starEach es X.env)).any (·.1) = false) :
    JE X hx D W (.mut f o args) (.Call (.Attribute eo name apos) (e :: es) [] cpos) := by
  refine PE.imp (pe_bm PySem.F.plainAttrs_list slot hty hm ho ha hbase hfew hline hs hplain) fun sg H Q ⟨w, st, env, S, R, q⟩ => ?_
  refine tE_one S R q fun t m1 w1 H1 x le1 S1 r1 q1 => ?_
  split at q1
  · rename_i hok
    rw [hf] at hok
    obtain ⟨xs, hx⟩ := Option.isSome_iff_exists.mp hok
    obtain ⟨a, vs, rfl, hp, rp⟩ := vwL_rep S1 r1 hx
    refine ⟨.inl ⟨rfl, _, .of hp⟩, ?_⟩
    refine tA_one S1 (R.mono le1) (later_okV.to q1 le1) fun ts m2 w2 H2 zs le2 S2 r2 q2 => ?_
    unfold mutR at q2
    cases t with
    | obj n =>
      simp only at q2
      split at q2
      · rename_i c hc
        split at q2
        · rename_i y c' hmu
          exact ⟨w2, m2, n, c, ts, y, c', S2, r1.mono le2, hc, r2, hmu, okV.mono q2 le2⟩
        · exact q2.elim
      · exact q2.elim
    | _ => exact q2.elim
  · exact q1.elim
end
end MP
end

section
set_option Elab.async false
set_option linter.all false
set_option maxRecDepth 100000
set_option maxHeartbeats 0
/-! MX1: a comprehension that lets an exception out: how it leaves the block. -/
namespace MP
open PySem PySem.Spec PyProof.Rows L2
theorem note_eq {e : Value} {ce env : PySem.Env} (h : ce.frame = env.frame) : noteFrame e ce = noteFrame e env := by
  unfold noteFrame PySem.frameOf
  rw [h]
theorem ff_touch {h h2 B B2 : Heap} {C : Addr} {oC : Obj} (s1 : Heap.SameBut C h h2) (s2 : Heap.SameBut C B B2) (hC : B.get? C = some oC) : ∀ {l : List PySem.Env}, h.FunFrames B l → h2.FunFrames B2 l
  | [], _ => trivial
  | env :: rest, ⟨k, ⟨L, o, e1, e2, e3, e4⟩, r⟩ => by
    have hL : L ≠ C := fun z => by rw [z, hC] at e2; cases e2
    exact ⟨k, ⟨L, o, e1, (s2.2 L hL).trans e2, (s1.2 L hL).trans e3, e4⟩, ff_touch s1 s2 hC r⟩
theorem traced_touch {h h2 B B2 : Heap} {C a : Addr} {oC : Obj} {Z : Obj → Prop} {fl : Value} (s1 : Heap.SameBut C h h2) (s2 : Heap.SameBut C B B2) (hC : B.get? C = some oC) (ha : B.get? a = none) (t : HandSPX.TracedZ h B a Z fl) : HandSPX.TracedZ h2 B2 a Z fl := by
  obtain ⟨oe, vs, T, oT, ts, he, hz, hd, h1, hnT, hTe, hT, hdT, h3⟩ := t
  have haC : a ≠ C := fun z => by rw [z, hC] at ha; cases ha
  have hTC : T ≠ C := fun z => by rw [z, hC] at hnT; cases hnT
  exact ⟨oe, vs, T, oT, ts, (s1.2 a haC).trans he, hz, hd, h1, (s2.2 T hTC).trans hnT, hTe, (s1.2 T hTC).trans hT, hdT, h3⟩
theorem held_touch {h h2 B B2 : Heap} {C a L : Addr} {oC : Obj} {Z : Obj → Prop} {l : List PySem.Env} (s1 : Heap.SameBut C h h2) (s2 : Heap.SameBut C B B2) (hC : B.get? C = some oC) (hC2 : ∀ o, B2.get? C = some o → h2.get? C = some o) (t : HandSPX.HeldZ B l a Z L h) : HandSPX.HeldZ B2 l a Z L h2 := by
  obtain ⟨k1, k2, k3, k4⟩ := t
  have haC : a ≠ C := fun z => by rw [z, hC] at k2; cases k2
  refine ⟨fun b o e => ?_, (s2.2 a haC).trans k2, ff_touch s1 s2 hC k3, traced_touch s1 s2 hC k2 k4⟩
  by_cases q : b = C
  · subst q; exact hC2 o e
  · rw [s2.2 b q] at e
    exact (s1.2 b q).trans (k1 b o e)
section
variable {M : Model} {A : Around} {E : Value → Shared → Prop} {s : Shared} {Z : Obj → Prop} {base : Heap} {env : PySem.Env} {outer : List PySem.Env} {L C e : Addr}
/-- noted by a place that is not this frame -/
theorem looks_heldZ {Q : Unit → Shared → Prop} (hZ : PXN.Steady1 Z) (hfr : A.frames = some (env :: outer)) (hf : env.frame = some L) (hCL : C ≠ L) (hfl : HandSPX.HeldZ base (env :: outer) e Z C s.heap)
    (hQ : ∀ h', HandSPX.HeldZ base (env :: outer) e Z L h' → s.heap.UpToSlots h' → Q () { s with heap := h' }) : wpAny M A (noteFrame (.ref e) env) Q E s := by
  obtain ⟨hkb, hen, hl, oe, vs, T, oT, ts, he, hz, hd, h1, hnT, hTe, hT, hdT, h3⟩ := hfl
  unfold noteFrame
  simp only [hf]
  refine wpAny_bind (wpAny_field he hd h1 ?_)
  rw [if_pos (show (Value.ref T != Value.none) = true from by simp)]
  refine wpAny_bind (wpAny_field hT hdT h3 ?_)
  rw [if_neg (show ¬ ((rawInt C == rawInt L) = true) from by
    intro q
    have q : rawInt C = rawInt L := by simpa using q
    have : (C : Int) = (L : Int) := by
      unfold rawInt at q
      injection q
    exact hCL (by exact_mod_cast this))]
  refine wpAny_bind (wpAny_setField hT hdT (Array.getElem?_eq_some_iff.mp h3).1 ?_)
  have other : ∀ b, b ≠ T → (s.heap.update T (Obj.mapFields (·.setIfInBounds 3 Value.none))).get? b = s.heap.get? b := fun b hb => Heap.get?_update_other _ _ (Ne.symm hb)
  have noRecord : ∀ b o, s.heap.get? b = some o → (∀ vs, o.data ≠ .fields vs) → b ≠ T := fun b o hb hnf q => by
    rw [q, hT] at hb; injection hb with hb; subst hb; exact hnf ts hdT
  refine PXN.wpAny_entryZ hZ hfr (hl.of_keeps fun b o hb hnf => ⟨o, (other b (noRecord b o hb hnf)).trans hb, rfl⟩) hf ((other e (Ne.symm hTe)).trans he)
    (fun b o hbo => (other b fun q => by rw [q, hnT] at hbo; cases hbo).trans (hkb b o hbo)) hen hd (Array.getElem?_eq_some_iff.mp h1).1 hz fun h' hN => ?_
  obtain ⟨x1, x2, x3, x4⟩ := hN
  exact hQ h' ⟨x1, hen, x2, x3⟩ fun b o hb hnf => x4 b o ((other b (noRecord b o hb hnf)).trans hb) hnf
/-- noted by this frame, it goes on out of the block -/
theorem passOn_held {what : String} {ce : PySem.Env} {Q : Value → Shared → Prop} (hf : ce.frame = some L) (hh : HandSPX.HeldZ base (env :: outer) e Z L s.heap)
    (hQ : ∀ h', HandSPX.HeldZ base (env :: outer) e Z L h' → s.heap.UpToSlots h' → E (.ref e) { s with heap := h' }) : wpAny M A (passOn what (.ref e) ce : Sem Value) Q E s := by
  have hh' := hh
  obtain ⟨k1, k2, k3, oe, vs, T, oT, ts, he, hz, hd, h1, hnT, hTe, hT, hdT, h3⟩ := hh'
  unfold PySem.passOn
  refine wpAny_bind (wpAny_field he hd h1 ?_)
  rw [if_neg (show ¬ ((Value.ref T == Value.none) = true) from by simp), hf]
  exact wpAny_bind (HandSPX.setFlight_onZ hh fun h' g1 g2 => wpAny_throw (hQ h' g1 g2))
end
/-- the block's context, what it lets out taken by the def around -/
abbrev raiseBlk (X : Cx) (s : Shared) (H : Hp) (scope : Scope) (cenv : PySem.Env) (fp : List Addr) : Cx :=
  (X.blk s H scope cenv fp).tr [] (notedBy (model X.prog X.w) X.A cenv (CompFails (model X.prog X.w) X.A X.xe cenv))
theorem takes_blk {X : Cx} {W : WX} {pins : List (Addr × Obj)} {sg : L2.St} {H3 : Hp} {s3 : Shared} {scope : Scope} {cl : List (Str × Addr)} {fp : List Addr} (hs : X.stack = X.env :: X.outer) (hf : X.env.frame = some X.env.locals) (tk : L2N.Takes X W)
    (I3 : Inv X pins sg H3 s3) (f3 : ∀ b ∈ fp, FpOk X pins H3 b) :
    L2N.Takes (raiseBlk X s3 H3 scope (compEnvC scope cl s3.heap.objs.size X.env) fp) (fun cls d _ H => W cls d sg H) := by
  intro u s' x
  obtain ⟨a, B, sI, pins', sg', H', cls, d, rfl, J, nb, up, sky, na, os, ag, w⟩ := x
  have J0 := J
  generalize hce : compEnvC scope cl s3.heap.objs.size X.env = ce at J nb up sky
  have cL : ce.locals = s3.heap.objs.size := by rw [← hce]; rfl
  have cF : ce.frame = X.env.frame := by rw [← hce]; rfl
  have I7 : Inv X pins sg H' sI := I3.call' (ch := fp) J.os J.base J.hok J.bare fun b hb => ⟨(f3 b hb).2.2.2.1, (f3 b hb).2.1, (f3 b hb).2.2.2.2.1, (f3 b hb).2.2.2.2.2⟩
  have nC : H' ce.locals = none := J.free
  rw [cL] at nC
  have fC : FpOk X pins H' s3.heap.objs.size := I3.fpOk (Nat.le_refl _) nC
  obtain ⟨m, hn, _⟩ := J.loc
  have hn : sI.heap.Ns ce.locals m := hn
  have hfr : X.A.frames = some (X.env :: X.outer) := by rw [I3.ok.frames, hs]
  have sky : L2.Sky B X.stack a (L2N.Zn cls d) ce.locals s'.heap := sky
  have nb : ∀ b o, sI.heap.get? b = some o → b ∉ frs X.stack → B.get? b = some o := nb
  have up : sI.heap.UpToSlots s'.heap := up
  have CL : ce.locals ≠ X.env.locals := by rw [cL]; exact fC.2.1
  have Cfr : ce.locals ∉ frs X.stack := by
    rw [cL]
    intro hm
    rcases List.mem_cons.mp (I3.stkSub _ hm) with z | z
    · exact fC.2.1 z
    · exact fC.2.2.1 z
  show wpAny _ _ (noteFrame (.ref a) ce) (fun _ s'' => CompFails (model X.prog X.w) X.A X.xe ce (.ref a) s'') _ s'
  rw [note_eq cF]
  rw [hs] at sky
  have fin : ∀ h1, HandSPX.HeldZ B (X.env :: X.outer) a (L2N.Zn cls d) X.env.locals h1 → s'.heap.UpToSlots h1 → CompFails (model X.prog X.w) X.A X.xe ce (.ref a) { s' with heap := h1 } := by
    intro h1 held up1
    refine ⟨m, (up.trans up1).ns hn, fun h2 m2 hn2 sb => ?_⟩
    obtain ⟨oC, es, ep, hoC, hdC, _⟩ := hn
    obtain ⟨o2, es2, ep2, ho2, hd2, _⟩ := hn2
    have hBC : B.get? ce.locals = some oC := nb _ _ hoC Cfr
    have fr2 : o2.isFreed = false := (Heap.get?_some_iff.mp ho2).2
    have g1 : (sI.heap.update ce.locals fun _ => o2).get? ce.locals = some o2 := Heap.get?_update_self (fun _ => o2) hoC fr2
    have g2 : (B.update ce.locals fun _ => o2).get? ce.locals = some o2 := Heap.get?_update_self (fun _ => o2) hBC fr2
    have sb1 : Heap.SameBut ce.locals sI.heap (sI.heap.update ce.locals fun _ => o2) := Heap.SameBut.update ..
    have sb2 : Heap.SameBut ce.locals B (B.update ce.locals fun _ => o2) := Heap.SameBut.update ..
    have held2 : HandSPX.HeldZ (B.update ce.locals fun _ => o2) (X.env :: X.outer) a (L2N.Zn cls d) X.env.locals h2 :=
      held_touch sb sb2 hBC (fun o e => by rw [g2] at e; cases e; exact ho2) held
    refine passOn_held (s := { s' with heap := h2 }) (cF.trans hf) held2 fun h3 held3 up3 => ?_
    refine tk _ _ ⟨a, B.update ce.locals fun _ => o2, { sI with heap := sI.heap.update ce.locals fun _ => o2 }, pins, sg, H', cls, d, rfl, ?_, ?_, ?_, ?_, na, os, ag, w⟩
    · have z := I7.turned (t' := sI.toks) (it := ce.locals) (h' := sI.heap.update ce.locals fun _ => o2) (fun b o hb e => (sb1.2 b hb).trans e) (by rw [cL]; exact nC) CL (by rw [cL]; exact fC.2.2.2.1) (by rw [cL]; exact fC.2.2.2.2.1) (by rw [cL]; exact fC.2.2.2.2.2)
      exact z
    · intro b o e hb
      by_cases q : b = ce.locals
      · subst q
        have e : (sI.heap.update ce.locals fun _ => o2).get? ce.locals = some o := e
        rw [g1] at e; cases e
        exact g2
      · have e : (sI.heap.update ce.locals fun _ => o2).get? b = some o := e
        rw [sb1.2 b q] at e
        exact (sb2.2 b q).trans (nb b o e hb)
    · intro b o e hnf
      by_cases q : b = ce.locals
      · subst q
        have e : (sI.heap.update ce.locals fun _ => o2).get? ce.locals = some o := e
        rw [g1] at e; cases e
        exact up3 _ _ ho2 hnf
      · have e : (sI.heap.update ce.locals fun _ => o2).get? b = some o := e
        rw [sb1.2 b q] at e
        obtain ⟨sl, e1⟩ := (up.trans up1) b o e hnf
        have e2 : h2.get? b = some { o with slots := sl } := (sb.2 b q).trans e1
        obtain ⟨sl2, e3⟩ := up3 b _ e2 hnf
        exact ⟨sl2, e3⟩
    · rw [hs]
      exact .inr (.inr held3)
  rcases sky with ⟨hB, hn', hl, oe, vs, he, hz, hd, h1⟩ | fl | hd
  · exact PXN.look_newZ L2N.Zn.steady hfr hl hf he hB hn' hd h1 hz fin
  · exact PXN.looks_onZ L2N.Zn.steady hfr hf fl fin
  · exact looks_heldZ L2N.Zn.steady hfr hf CL hd fin
end MP
end

section
set_option Elab.async false
set_option linter.all false
set_option maxRecDepth 100000
set_option maxHeartbeats 0
/-! MX2: a list comprehension whose turns may raise. -/
namespace MP
open PySem PySem.Spec PyProof.Rows L2
theorem noted_mono {M : Model} {A : Around} {env : PySem.Env} {E E' : Value → Shared → Prop} (h : ∀ e s, E e s → E' e s) {e : Value} {s : Shared} (x : notedBy M A env E e s) : notedBy M A env E' e s :=
  wpAny_mono x (fun _ s q => h e s q) fun e s q => h e s q
theorem ends_error {M : Model} {A : Around} {E : Value → Shared → Prop} {use : Option (Value → Sem Unit)} {Q : Value → Shared → Prop} {acc : Value} {ce : PySem.Env} {e : Value} {s : Shared} (h : CompFails M A E ce e s) : compEnds M A E use Q acc ce (.error e) s := by
  cases use <;> exact h
section
variable {X : Cx} {pins : List (Addr × Obj)} {s : Shared} {sg : L2.St} {H : Hp} {Q : VK} {elt tg iter : Expr} {ifs : List Expr} {scope : Scope} {own : List (Str × Nat)} {pos pos' : Pos} {wi : TI} {g : TG} {tt : TT} {te : TE} {W : WX}
theorem lcx_core {use : Option (Value → Sem Unit)} {Qf : Value → Shared → Prop} (hs0 : X.stack = X.env :: X.outer) (hf0 : X.env.frame = some X.env.locals) (tk : L2N.Takes X W) (hc : X.calm = true) (hN : X.N.Nodup) (I : L2.Inv X pins sg H s) (hi : PI X tg iter wi) (ok : BlkOk X.N X.env.scope scope own)
    (hg : ∀ (s : Shared) (H : Hp) (C : Addr) (cl : List (Str × Addr)) (fp : List Addr), PG (raiseBlk X s H scope (compEnvC scope cl C X.env) fp) tg g)
    (ht : ∀ (s : Shared) (H : Hp) (C : Addr) (cl : List (Str × Addr)) (fp : List Addr), L2N.Takes (raiseBlk X s H scope (compEnvC scope cl C X.env) fp) (fun c d _ H => W c d sg H) → PTs (raiseBlk X s H scope (compEnvC scope cl C X.env) fp) ifs tt)
    (he : ∀ (s : Shared) (H : Hp) (C : Addr) (cl : List (Str × Addr)) (fp : List Addr), L2N.Takes (raiseBlk X s H scope (compEnvC scope cl C X.env) fp) (fun c d _ H => W c d sg H) → PE (raiseBlk X s H scope (compEnvC scope cl C X.env) fp) elt te) (hs : ∀ x, foldedSetIterable iter X.env x = pure x)
    (h : tLc wi g tt te (own.map (·.2)) sg H Q)
    (hend : ∀ d (ce : PySem.Env) s' m H', L2.Inv X pins sg H' s' → Q (.ref d) H' → s'.heap.Ns ce.locals m → FpOk X pins H' ce.locals → compEnds (model X.prog X.w) X.A X.xe use Qf (.ref d) ce (.ok .next) s') :
    wpAny (model X.prog X.w) X.A (comprehension (.ListComp elt [⟨tg, iter, ifs, 0⟩] scope pos) scope X.env pos' (newList []) false (PySem.eval iter X.env) use) Qf X.xe s := by
  have clo : closureFor scope X.env = pure (cloFrom X.env.cells scope.names []) := closure_ok fun y hy e => (ok.free y hy e).elim (fun k => I.ok.has _ (.inl k)) fun k => I.ok.has _ (.inr k)
  refine comprehension_at (use := use) rfl hs clo ok.kind (fun y hy e => by rw [ok.uniq y hy, e]) (thn (hi.run pins s sg H _ I h) fun xv s1 hx => thn hx fun itv s2 h2 => ?_)
  obtain ⟨it, fp, tn, J, H2, rfl, I2, turn, at0, fp2, want⟩ := h2
  refine wpAny_newObj_type (newEnv_comp ?_) (by show 0 ≤ sizeLine; decide)
  obtain ⟨d, hd⟩ : ∃ d, d = s2.heap.objs.size := ⟨_, rfl⟩
  obtain ⟨s3, hs3⟩ : ∃ s3 : Shared, s3 = { s2 with heap := s2.heap.push { cls := .type "list", data := .seq ([] : List Value).toArray } } := ⟨_, rfl⟩
  rw [← hs3, ← hd]
  have kept : ∀ b o, s2.heap.get? b = some o → s3.heap.get? b = some o := fun b o e => by rw [hs3]; exact Heap.get?_push_of_some _ e
  have I3 : L2.Inv X pins sg (upd H2 d (.lst [])) s3 := by
    have := I2.laid (a := d) (o := .lst []) (h' := s2.heap.push { cls := .type "list", data := .seq ([] : List Value).toArray }) (t' := s2.toks) (fun b o e => Heap.get?_push_of_some _ e) (Nat.le_of_eq hd.symm) ⟨Nat.zero_le _, [], 0, .nil, by rw [hd]; exact Heap.get?_push_size _ rfl⟩
    rw [hs3]; exact this
  obtain ⟨Wk, ⟨m0, w0⟩, step⟩ := want d (I2.hok.fresh (Nat.le_of_eq hd.symm))
  obtain ⟨H3, hH3⟩ : ∃ H3, H3 = upd H2 d (.lst []) := ⟨_, rfl⟩
  rw [← hH3] at I3 w0
  have szs : s3.heap.objs.size = d + 1 := by rw [hs3, hd]; exact Heap.size_push ..
  have low : ∀ b ∈ fp, b < d := fun b hb => by
    obtain ⟨o, e, _⟩ := turn.obj _ _ at0 b hb
    rw [hd]; exact Heap.lt_size e
  have fp3 : ∀ b ∈ fp, FpOk X pins H3 b ∧ b < s3.heap.objs.size := fun b hb => by
    have := low b hb
    refine ⟨⟨?_, (fp2 b hb).2⟩, by rw [szs]; exact Nat.lt_succ_of_lt this⟩
    rw [hH3, upd_ne (Nat.ne_of_lt this)]
    exact (fp2 b hb).1
  have I4 := block_start I3 ok hN fp3
  obtain ⟨cl, hcl⟩ : ∃ cl, cl = cellsFrom (s3.heap.objs.size + 1) scope.names (cloFrom X.env.cells scope.names []) := ⟨_, rfl⟩
  obtain ⟨s4, hs4⟩ : ∃ s4 : Shared, s4 = { s3 with heap := pushCells (s3.heap.push { cls := .type "dict", data := .dict #[] }) scope.names } := ⟨_, rfl⟩
  rw [← hcl, ← hs4] at I4
  have kept4 : ∀ b o, s3.heap.get? b = some o → s4.heap.get? b = some o := fun b o e => by rw [hs4]; exact pushCells_keeps _ _ _ _ (Heap.get?_push_of_some _ e)
  have tkb := takes_blk (scope := scope) (cl := cl) (fp := fp) hs0 hf0 tk I3 fun b hb => (fp3 b hb).1
  have I5 : L2.Inv (raiseBlk X s3 H3 scope (compEnvC scope cl s3.heap.objs.size X.env) fp) [] (L2.wipe sg (own.map (·.2))) H3 s4 := I4.toTry _
  have at4 : tn 0 s4.heap := turn.keep _ _ _ (turn.keep _ _ _ at0 fun b _ o e => kept b o e) fun b _ o e => kept4 b o e
  show codeAny _ _ (.compStart (.ListComp elt [⟨tg, iter, ifs, 0⟩] scope pos) 0 (.ref it) (.ref d) (compEnvC scope (cellsFrom (s3.heap.objs.size + 1) scope.names (cloFrom X.env.cells scope.names [])) s3.heap.objs.size X.env)) (compEnds (model X.prog X.w) X.A X.xe use Qf (.ref d) (compEnvC scope (cellsFrom (s3.heap.objs.size + 1) scope.names (cloFrom X.env.cells scope.names [])) s3.heap.objs.size X.env)) { s3 with heap := pushCells (s3.heap.push { cls := .type "dict", data := .dict #[] }) scope.names }
  rw [← hcl, ← hs4]
  have pg := hg s3 H3 s3.heap.objs.size cl fp
  have pt := ht s3 H3 s3.heap.objs.size cl fp tkb
  have pe := he s3 H3 s3.heap.objs.size cl fp tkb
  have ce_l : (compEnvC scope cl s3.heap.objs.size X.env).locals = s3.heap.objs.size := rfl
  clear tkb hg ht he
  obtain ⟨ce, hce⟩ : ∃ ce, ce = compEnvC scope cl s3.heap.objs.size X.env := ⟨_, rfl⟩
  rw [← hce] at I5 pg pt pe ce_l ⊢
  have stays : ∀ {sg' : L2.St} {H' : Hp} {s' : Shared}, L2.Inv (raiseBlk X s3 H3 scope ce fp) [] sg' H' s' → (∀ b ∈ fp, H' b = none) → ∀ b ∈ fp, FpOk (raiseBlk X s3 H3 scope ce fp) [] H' b := fun {sg' H' s'} J' hn b hb =>
    ⟨hn b hb, (J'.ok.exf b hb).1, J'.ok.exfs b hb, .inl hb, fun x c e => (J'.ok.exf b hb).2 x c e, fun q hq e => absurd (show q ∈ ([] : List (Addr × Obj)) ++ [] from hq) (by simp)⟩
  have err : ∀ e s', (raiseBlk X s3 H3 scope ce fp).xe e s' → notedBy (model X.prog X.w) X.A ce (fun e s' => compEnds (model X.prog X.w) X.A X.xe use Qf (.ref d) ce (.error e) s') e s' := fun e s' q =>
    noted_mono (fun _ _ => ends_error) (show notedBy (model X.prog X.w) X.A ce (CompFails (model X.prog X.w) X.A X.xe ce) e s' from q)
  have loop : codeAny (model X.prog X.w) X.A (.compLoop (.ListComp elt [⟨tg, iter, ifs, 0⟩] scope pos) 0 (.ref it) (.ref d) ce) (compEnds (model X.prog X.w) X.A X.xe use Qf (.ref d) ce) s4 := by
    refine compLoop_any (fun n s' => ∃ i H', L2.Inv (raiseBlk X s3 H3 scope ce fp) [] (L2.wipe sg (own.map (·.2))) H' s' ∧ tn i s'.heap ∧ (∀ b ∈ fp, H' b = none) ∧ Wk i n H') ?_ m0 ⟨0, H3, I5, at4, fun b hb => (fp3 b hb).1.1, w0⟩
    rintro n s5 ⟨i, H5, J5, at5, n5, w5⟩
    rcases step i n H5 w5 with ⟨stop, qq⟩ | ⟨go, Nx, hNx, yl⟩
    · refine thnF (turn.done (raiseBlk X s3 H3 scope ce fp) rfl rfl rfl hc i [] s5 _ H5 (fun _ _ => False) J5 (stays J5 n5) at5 stop) fun r s6 ⟨hr, J6⟩ => ?_
      subst hr
      have I7 : L2.Inv X pins sg H5 s6 := I3.call' (ch := fp) J6.os J6.base J6.hok J6.bare fun b hb => ⟨(fp3 b hb).1.2.2.2.1, (fp3 b hb).1.2.1, (fp3 b hb).1.2.2.2.2.1, (fp3 b hb).1.2.2.2.2.2⟩
      obtain ⟨mm, hn, _⟩ := J6.loc
      have hn : s6.heap.Ns ce.locals mm := hn
      have nC : H5 ce.locals = none := J6.free
      exact hend d ce s6 mm H5 I7 qq hn (by rw [ce_l] at nC ⊢; exact I3.fpOk (Nat.le_refl _) nC)
    · refine thnF (turn.item (raiseBlk X s3 H3 scope ce fp) rfl rfl rfl hc i [] s5 _ H5 (fun _ _ => False) J5 (stays J5 n5) at5 go) fun r s6 ⟨u, hr, h6⟩ => ?_
      subst hr
      refine thnF h6 fun _ s7 ⟨x, H7, J7, r7, y7, at7, n7⟩ => ?_
      have J8 := J7.pinned (stays J7 n7) (turn.obj _ _ at7)
      refine wpAny_mono (pg.run _ s7 _ H7 x u _ J8 r7 (yl x H7 y7)) (fun _ s8 ⟨sg8, H8, J9, hw8, q8⟩ => ?_) err
      refine wpAny_mono (pt.run _ s8 sg8 H8 _ J9 q8) (fun b s9 ⟨H9, J10, q9⟩ => ?_) err
      have next : ∀ {s' : Shared} {H' : Hp}, L2.Inv (raiseBlk X s3 H3 scope ce fp) ([] ++ pinsAt fp s7.heap) sg8 H' s' → Nx H' → ∃ k, k < n ∧ ∃ i H', L2.Inv (raiseBlk X s3 H3 scope ce fp) [] (L2.wipe sg (own.map (·.2))) H' s' ∧ tn i s'.heap ∧ (∀ b ∈ fp, H' b = none) ∧ Wk i k H' := fun {s' H'} K nx => by
        obtain ⟨k, hk, w'⟩ := hNx H' nx
        have pinned : ∀ b ∈ fp, ∀ o, s7.heap.get? b = some o → s'.heap.get? b = some o ∧ H' b = none := fun b hb o e =>
          have z := K.pin (b, o) (List.mem_append_right _ (List.mem_append_right _ (mem_pinsAt hb e)))
          ⟨z.1, z.2.1⟩
        refine ⟨k, hk, i + 1, H', (K.unpinned (pins := [])).weak (by rw [← hw8, wipe_length]) (fun j v e => ?_), turn.keep _ _ _ at7 fun b hb o e => (pinned b hb o e).1, fun b hb => ?_, w'⟩
        · rw [← hw8] at e; exact (wipe_some e).1
        · obtain ⟨o, e, _⟩ := turn.obj _ _ at7 b hb
          exact (pinned b hb o e).2
      cases b with
      | false => simp only [Bool.false_eq_true, if_false] at q9 ⊢; exact next J10 q9
      | true =>
        simp only [if_true] at q9 ⊢
        refine wpAny_mono (pe.run _ s9 sg8 H9 _ J10 q9) (fun z s10 ⟨yv, H10, J11, r11, acc, hd10, hz10, nx⟩ => ?_) err
        exact app_ok (X := raiseBlk X s3 H3 scope ce fp) J11 hd10 hz10 r11 fun s11 J12 => next J12 nx
  exact codeAny_compStart_list loop (turn.self X.A 0 _ _ _ at4 loop)
theorem pe_lcX (hs0 : X.stack = X.env :: X.outer) (hf0 : X.env.frame = some X.env.locals) (tk : L2N.Takes X W) (hc : X.calm = true) (hN : X.N.Nodup) (hi : PI X tg iter wi) (ok : BlkOk X.N X.env.scope scope own) {te : L2.St → TE} {tt : L2.St → TT}
    (hg : ∀ (s : Shared) (H : Hp) (C : Addr) (cl : List (Str × Addr)) (fp : List Addr), PG (raiseBlk X s H scope (compEnvC scope cl C X.env) fp) tg g)
    (ht : ∀ (sg : L2.St) (s : Shared) (H : Hp) (C : Addr) (cl : List (Str × Addr)) (fp : List Addr), L2N.Takes (raiseBlk X s H scope (compEnvC scope cl C X.env) fp) (fun c d _ H => W c d sg H) → PTs (raiseBlk X s H scope (compEnvC scope cl C X.env) fp) ifs (tt sg))
    (he : ∀ (sg : L2.St) (s : Shared) (H : Hp) (C : Addr) (cl : List (Str × Addr)) (fp : List Addr), L2N.Takes (raiseBlk X s H scope (compEnvC scope cl C X.env) fp) (fun c d _ H => W c d sg H) → PE (raiseBlk X s H scope (compEnvC scope cl C X.env) fp) elt (te sg)) (hs : ∀ x, foldedSetIterable iter X.env x = pure x) :
    PE X (.ListComp elt [⟨tg, iter, ifs, 0⟩] scope pos) (fun sg H Q => tLc wi g (tt sg) (te sg) (own.map (·.2)) sg H Q) := by
  refine ⟨fun pins s sg H Q I h => ?_⟩
  rw [eval_ListComp]
  refine lcx_core hs0 hf0 tk hc hN I hi ok hg (ht sg) (he sg) hs h fun D ce s' m H' I' q hn f => ⟨m, hn, fun h'' sb => ?_⟩
  obtain ⟨f0, f1, f2, f3, f4, f5⟩ := f
  exact ⟨.ref D, H', I'.turned (t' := s'.toks) (fun b o hb e => (sb.2 b hb).trans e) f0 f1 f3 f4 f5, rfl, q⟩
theorem ps_setLcX {i : Nat} {y : Str} {py spos : Pos} (hs0 : X.stack = X.env :: X.outer) (hf0 : X.env.frame = some X.env.locals) (tk : L2N.Takes X W) (hc : X.calm = true) (hN : X.N.Nodup) (hy : X.N[i]? = some y) (hyl : X.env.scope.names.lookup y = some .local)
    (hsw : swapsWith (.ListComp elt [⟨tg, iter, ifs, 0⟩] scope pos) (some (.Name y py)) spos.line X.env = pure true) (hi : PI X tg iter wi) (ok : BlkOk X.N X.env.scope scope own) {te : L2.St → TE} {tt : L2.St → TT}
    (hg : ∀ (s : Shared) (H : Hp) (C : Addr) (cl : List (Str × Addr)) (fp : List Addr), PG (raiseBlk X s H scope (compEnvC scope cl C X.env) fp) tg g)
    (ht : ∀ (sg : L2.St) (s : Shared) (H : Hp) (C : Addr) (cl : List (Str × Addr)) (fp : List Addr), L2N.Takes (raiseBlk X s H scope (compEnvC scope cl C X.env) fp) (fun c d _ H => W c d sg H) → PTs (raiseBlk X s H scope (compEnvC scope cl C X.env) fp) ifs (tt sg))
    (he : ∀ (sg : L2.St) (s : Shared) (H : Hp) (C : Addr) (cl : List (Str × Addr)) (fp : List Addr), L2N.Takes (raiseBlk X s H scope (compEnvC scope cl C X.env) fp) (fun c d _ H => W c d sg H) → PE (raiseBlk X s H scope (compEnvC scope cl C X.env) fp) elt (te sg)) (hs : ∀ x, foldedSetIterable iter X.env x = pure x) :
    PS X (.Assign [.Name y py] (.ListComp elt [⟨tg, iter, ifs, 0⟩] scope pos) spos) (tAsg (fun sg H Q => tLc wi g (tt sg) (te sg) (own.map (·.2)) sg H Q) (gName i)) := by
  refine ⟨fun pins s sg H D I h => ?_⟩
  rw [exec_Assign_Name_used _ _ _ _ hsw]
  refine wpAny_bind (wpAny_standAt (wpAny_bind ?_))
  show wpAny _ X.A (do let _ ← comprehension (.ListComp elt [⟨tg, iter, ifs, 0⟩] scope pos) scope X.env (firstIterPos [⟨tg, iter, ifs, 0⟩] pos) (newList []) false (PySem.eval iter X.env) (some (PySem.assign (.Name y py) X.env))) _ _ s
  have h : tLc wi g (tt sg) (te sg) (own.map (·.2)) sg H (fun x H1 => gName i x sg H1 D.nx) := h
  refine wpAny_bind (thn (lcx_core (Qf := fun _ s' => SP X pins D .next s') hs0 hf0 tk hc hN I hi ok hg (ht sg) (he sg) hs h fun L ce s' m H' I' q hn f => ?_) fun _ s' hq => wpAny_pure (wpAny_pure hq))
  show wpAny _ _ (PySem.assign (.Name y py) X.env (.ref L)) _ _ _
  refine wpAny_assign_Name (store_ok2 (v := V.ref L) I' hN hy (.inl hyl) rfl (fun s2 I2 ⟨a, sb, ha⟩ => ?_) (.inr hyl))
  obtain ⟨f0, f1, f2, f3, f4, f5⟩ := f
  have haC : ce.locals ≠ a := by
    rcases ha with z | z
    · rw [z]; exact f1
    · exact fun e => f4 y a z e.symm
  refine ⟨m, hn.sameBut sb haC, fun h3 sb3 => ?_⟩
  exact ⟨_, H', I2.turned (t' := s2.toks) (fun b o hb e => (sb3.2 b hb).trans e) f0 f1 f3 f4 f5, q⟩
end
end MP
end

section
set_option Elab.async false
set_option linter.all false
set_option maxRecDepth 100000
set_option maxHeartbeats 0
/-! MX3: the evaluator's comprehension whose turns may raise. -/
namespace MP
open PySem PySem.Spec PyProof.Rows L2
theorem compLX_cons {wk : Walk} {f : T → Store → Res (Option T)} {P : List T → Store → Prop} {Ex : Nat → List T → Store → Prop} {t : T} {r : List T} {m : Store} (h : (compLX wk f (t :: r) m).to P Ex) :
    wk.ok m = true ∧ (f t m).to (fun o m1 => (compLX wk f r m1).to (fun ys m2 => P (o.toList ++ ys) m2) Ex) Ex := by
  unfold compLX at h
  split at h
  · rename_i ok
    refine ⟨ok, ?_⟩
    cases hf : f t m with
    | stuck => rw [hf] at h; exact h.elim
    | exc c xs m' => rw [hf] at h; exact h
    | ok o m1 =>
      rw [hf] at h
      simp only at h
      show (compLX wk f r m1).to _ _
      cases hr : compLX wk f r m1 with
      | stuck => rw [hr] at h; exact h.elim
      | exc c xs m' => rw [hr] at h; exact h
      | ok ys m2 =>
        rw [hr] at h
        cases o <;> exact h
  · exact h.elim
theorem compLX_nil {wk : Walk} {f : T → Store → Res (Option T)} {P : List T → Store → Prop} {Ex : Nat → List T → Store → Prop} {m : Store} (h : (compLX wk f [] m).to P Ex) : wk.ok m = true ∧ P [] m := by
  unfold compLX at h
  split at h
  · rename_i ok; exact ⟨ok, h⟩
  · exact h.elim
/-- a wish about exceptions, the names as they stand at the def's own place -/
def Wo (W : WX) (sg0 : L2.St) : WX := fun c d _ H => W c d sg0 H
section
variable {X : Cx} {hx : Option (Addr × Nat × List T)} {D : Sd} {W : WX} {pos p : Pos} {tg : Expr}
theorem eval_compX {C : Ctx} {own : List Nat} {tg : Tgt} {it : It} {c e : E} {env : Env} {m : Store} : eval C (.compX own tg it c e) env m = (evalI C it env m).bind fun w m => if w.xs.length ≤ LINE then (compLX w (turnF C env own tg c e) w.xs m).bind shortL else .stuck := rfl
theorem out_of_acc {K : Kx} {w wa wb : Wd} {ma : Store} {Ha : Hp} {d : Addr} {acc : List T} {vs : List V} {sg sg0 : L2.St} (A : AccS K wa ma Ha d acc vs) (lb : wb.le wa) (le : (wa.hold d vs).le w) {c : Nat} {xs : List T} {m1 : Store} (h : exV K D W wb sg0 c xs m1) : exV K D (Wo W sg0) w sg c xs m1 := by
  intro w' H' le' S' cls d' r
  obtain ⟨A2, l2, l0⟩ := A.back (le.trans le') S'
  obtain ⟨w4, le4, S4, _⟩ := A2.done
  exact h w4 H' (lb.trans (l2.trans le4)) S4 cls d' r
theorem turn_runX {K : Kx} {w wb : Wd} {m : Store} {H : Hp} {env : Env} {sg sg0 : L2.St} {own : List Nat} {g : Tgt} {c e : E} {t : T} {v : V} {P : Option T → Store → Prop} {Nx : Hp → Prop} {d : Addr} {wa : Wd} {ma : Store} {Ha : Hp} {acc : List T} {vs : List V}
    (A : AccS K wa ma Ha d acc vs) (lb : wb.le wa) (le : (wa.hold d vs).le w) (S : Sim K w m H) (R : EnvR K w env sg) (r : Rep K w t v) (hg : ∀ i ∈ g.slots, i ∈ own)
    (q : (turnF D.C env own g c e t m).to P (exV K D W wb sg0)) (bound : vs.length < sizeLine)
    (nxS : ∀ w' m' H' y u, wa.le w' → AccS K w' m' (upd H' d (.lst (vs ++ [u]))) d (acc ++ [y]) (vs ++ [u]) → P (some y) m' → Nx (upd H' d (.lst (vs ++ [u]))))
    (nxN : ∀ w' m' H', wa.le w' → AccS K w' m' H' d acc vs → P none m' → Nx H') :
    tG K g v (L2.wipe sg own) H fun sg2 H2 => L2.wipe sg2 own = L2.wipe sg own ∧ tT K D (Wo W sg0) c sg2 H2 fun b H3 =>
      if b = true then tE K D (Wo W sg0) e sg2 H3 fun y H4 => ∃ acc, H4 d = some (.lst acc) ∧ acc.length < sizeLine ∧ Nx (upd H4 d (.lst (acc ++ [y]))) else Nx H3 := by
  unfold turnF at q
  obtain ⟨env', he, q⟩ := Res.to_ofO (Res.to_bind q)
  refine ⟨w, m, t, _, env', S, R.wipe own, r, he, fun sg' R' _ hw => ⟨by rw [hw own hg, wipe_wipe own own sg fun _ h => h], ?_⟩⟩
  have q : ((test D.C c env' m).bind fun r m => if r then (eval D.C e env' m).bind fun y m => .ok (some y) m else .ok none m).to P (exV K D W wb sg0) := by
    have e : ((test D.C c env' m).bind fun r m => if r then (eval D.C e env' m).bind fun y m => .ok (some y) m else .ok none m) = ((eval D.C c env' m).bind fun x m => (Res.ofO (truth m x) m).bind fun r m => if r then (eval D.C e env' m).bind fun y m => .ok (some y) m else .ok none m) := by
      show ((eval D.C c env' m).bind _).bind _ = _
      rw [Res.bind_assoc]
    rw [e]; exact q
  refine ⟨w, m, env', S, R', Res.to_mono (Res.to_bind q) (fun b m1 q1 w1 H1 le1 S1 => ?_) fun c' xs m1 z => out_of_acc A lb le z⟩
  cases b with
  | true =>
    simp only [if_true] at q1 ⊢
    refine ⟨w1, m1, env', S1, R'.mono le1, Res.to_mono (Res.to_bind q1) (fun y m2 q2 w2 H2 le2 S2 u ru => ?_) fun c' xs m1 z => out_of_acc A lb (le.trans le1) z⟩
    obtain ⟨A2, l2, l0⟩ := A.back ((le.trans le1).trans le2) S2
    exact ⟨vs, A2.at_, bound, nxS _ _ _ y u l2 (A2.snoc (ru.mono0 l0)) q2⟩
  | false =>
    simp only [Bool.false_eq_true, if_false] at q1 ⊢
    obtain ⟨A2, l2, l0⟩ := A.back (le.trans le1) S1
    exact nxN _ _ _ l2 A2 q1
theorem comp_readsX {K : Kx} {w : Wd} {st : Store} {env : Env} {sg : L2.St} {H : Hp} {Q : VK} {own : List Nat} {g : Tgt} {it : It} {c e : E} {F : List T → Store → Prop} (hgs : ∀ i ∈ g.slots, i ∈ own) (S : Sim K w st H) (R : EnvR K w env sg)
    (q : (evalI D.C it env st).to (fun wk m => wk.xs.length ≤ LINE ∧ (compLX wk (turnF D.C env own g c e) wk.xs m).to (fun ys m => F ys m) (exV K D W w sg)) (exV K D W w sg))
    (fin : ∀ w' m' H' d acc vs, w.le w' → AccS K w' m' H' d acc vs → F acc m' → Q (.ref d) H') : tLc (tI K D W it) (tG K g) (tT K D (Wo W sg) c) (tE K D (Wo W sg) e) own sg H Q := by
  refine ⟨w, st, env, S, R, Res.to_mono q (fun wk m1 q0 w1 H1 le1 S1 J hJ d hd => ?_) fun _ _ _ z => z⟩
  obtain ⟨hL, q1⟩ := q0
  let P : Nat → Hp → Prop := fun i H => ∃ w2 m2 acc vs, w1.le w2 ∧ AccS K w2 m2 H d acc vs ∧ acc.length ≤ i ∧
    (compLX wk (turnF D.C env own g c e) (wk.xs.drop i) m2).to (fun ys m3 => F (acc ++ ys) m3) (exV K D W w sg)
  refine ⟨fun i n H => n = wk.xs.length - i ∧ i ≤ wk.xs.length ∧ P i H, ⟨_, rfl, Nat.zero_le _, w1, m1, [], [], .refl, AccS.new S1 hd, Nat.zero_le _, ?_⟩, ?_⟩
  · rw [List.drop_zero]
    exact q1
  · rintro i n H' ⟨rfl, hi, w2, m2, acc, vs, le2, A, hacc, q2⟩
    by_cases hlt : i < wk.xs.length
    · obtain ⟨t, ht, hdr⟩ := drop_cons hlt
      rw [hdr] at q2
      obtain ⟨okk, q3⟩ := compLX_cons q2
      obtain ⟨hgo, hst⟩ := hJ (w2.hold d vs) m2 H' (le2.to0.trans Wd.hold_le0) A.held okk
      obtain ⟨go, yl⟩ := hgo i t ht
      refine .inr ⟨go, P (i + 1), fun H2 p => ⟨_, by omega, rfl, hlt, p⟩, fun x H2 y => ?_⟩
      obtain ⟨w3, le3, S3, r3⟩ := yl x H2 y
      refine turn_runX A (le1.trans le2) le3 S3 ((R.mono0 (le1.to0.trans le2.to0)).mono0 (Wd.hold_le0.trans le3.to0)) r3 hgs q3 ?_ (fun w' m' H3 y u l' A' p => ?_) fun w' m' H3 l' A' p => ?_
      · rw [LINE_eq, ← A.rep.length]; omega
      · refine ⟨w', m', _, _, le2.trans l', A', by simp; omega, Res.to_mono p (fun ys m3 h => ?_) fun _ _ _ z => z⟩
        simpa [List.append_assoc] using h
      · exact ⟨w', m', _, _, le2.trans l', A', by omega, Res.to_mono p (fun ys m3 h => by simpa using h) fun _ _ _ z => z⟩
    · have e : i = wk.xs.length := by omega
      subst e
      rw [List.drop_length] at q2
      obtain ⟨okk, q3⟩ := compLX_nil q2
      obtain ⟨_, hst⟩ := hJ w2 m2 H' le2.to0 A.sim okk
      rw [List.append_nil] at q3
      exact .inl ⟨hst, fin w2 m2 H' d acc vs (le1.trans le2) A q3⟩
theorem comp_tEX {own : List Nat} {g : Tgt} {it : It} {c e : E} (hgs : ∀ i ∈ g.slots, i ∈ own) (K : Kx) (sg : L2.St) (H : Hp) (Q : VK) (q : tE K D W (.compX own g it c e) sg H Q) : tLc (tI K D W it) (tG K g) (tT K D (Wo W sg) c) (tE K D (Wo W sg) e) own sg H Q := by
  obtain ⟨w, st, env, S, R, q⟩ := q
  rw [eval_compX] at q
  refine comp_readsX (F := fun ys m => okV K w Q (.lst ys) m) hgs S R (Res.to_mono (Res.to_bind q) (fun wk m1 q1 => ?_) fun _ _ _ z => z) fun w' m' H' d acc vs le A h => ?_
  · by_cases hl : wk.xs.length ≤ LINE
    · rw [if_pos hl] at q1
      exact ⟨hl, Res.to_mono (Res.to_bind q1) (fun ys m h => (short_to h).2) fun _ _ _ z => z⟩
    · rw [if_neg hl] at q1; exact q1.elim
  · obtain ⟨w4, le4, S4, r4⟩ := A.done
    exact h w4 H' (le.trans le4) S4 _ r4
variable {own : List Nat} {g : Tgt} {it : It} {c e : E} {elt iter : Expr} {ifs : List Expr} {scope : Scope} {ownS : List (Str × Nat)}
theorem E_compX (hs0 : X.stack = X.env :: X.outer) (hf0 : X.env.frame = some X.env.locals) (tk : L2N.Takes X W) (hc : X.calm = true) (hN : X.N.Nodup) (hi : JI X hx D W tg it iter) (ok : BlkOk X.N X.env.scope scope ownS) (ho : ownS.map (·.2) = own) (hgs : ∀ i ∈ g.slots, i ∈ own)
    (hg : ∀ (s : Shared) (H : Hp) (C : Addr) (cl : List (Str × Addr)) (fp : List Addr), PG (raiseBlk X s H scope (compEnvC scope cl C X.env) fp) tg (tG (X.kx hx) g))
    (ht : ∀ (sg : L2.St) (s : Shared) (H : Hp) (C : Addr) (cl : List (Str × Addr)) (fp : List Addr), L2N.Takes (raiseBlk X s H scope (compEnvC scope cl C X.env) fp) (Wo W sg) → JTs (raiseBlk X s H scope (compEnvC scope cl C X.env) fp) hx D (Wo W sg) c ifs)
    (he : ∀ (sg : L2.St) (s : Shared) (H : Hp) (C : Addr) (cl : List (Str × Addr)) (fp : List Addr), L2N.Takes (raiseBlk X s H scope (compEnvC scope cl C X.env) fp) (Wo W sg) → JE (raiseBlk X s H scope (compEnvC scope cl C X.env) fp) hx D (Wo W sg) e elt) (hs : ∀ x, foldedSetIterable iter X.env x = pure x) :
    JE X hx D W (.compX own g it c e) (.ListComp elt [⟨tg, iter, ifs, 0⟩] scope pos) := by
  subst ho
  exact PE.imp (pe_lcX hs0 hf0 tk hc hN hi ok hg (fun sg s H C cl fp t => PTs_of (ht sg s H C cl fp t)) (fun sg s H C cl fp t => he sg s H C cl fp t) hs) fun sg H Q q => comp_tEX hgs _ sg H Q q
theorem A_compX {i : Nat} {y : Str} {py spos : Pos} (hs0 : X.stack = X.env :: X.outer) (hf0 : X.env.frame = some X.env.locals) (tk : L2N.Takes X W) (hc : X.calm = true) (hN : X.N.Nodup) (hi : JI X hx D W tg it iter) (ok : BlkOk X.N X.env.scope scope ownS) (ho : ownS.map (·.2) = own) (hgs : ∀ i ∈ g.slots, i ∈ own)
    (hg : ∀ (s : Shared) (H : Hp) (C : Addr) (cl : List (Str × Addr)) (fp : List Addr), PG (raiseBlk X s H scope (compEnvC scope cl C X.env) fp) tg (tG (X.kx hx) g))
    (ht : ∀ (sg : L2.St) (s : Shared) (H : Hp) (C : Addr) (cl : List (Str × Addr)) (fp : List Addr), L2N.Takes (raiseBlk X s H scope (compEnvC scope cl C X.env) fp) (Wo W sg) → JTs (raiseBlk X s H scope (compEnvC scope cl C X.env) fp) hx D (Wo W sg) c ifs)
    (he : ∀ (sg : L2.St) (s : Shared) (H : Hp) (C : Addr) (cl : List (Str × Addr)) (fp : List Addr), L2N.Takes (raiseBlk X s H scope (compEnvC scope cl C X.env) fp) (Wo W sg) → JE (raiseBlk X s H scope (compEnvC scope cl C X.env) fp) hx D (Wo W sg) e elt) (hs : ∀ x, foldedSetIterable iter X.env x = pure x)
    (hy : X.N[i]? = some y) (hyl : X.env.scope.names.lookup y = some .local) (hsw : swapsWith (.ListComp elt [⟨tg, iter, ifs, 0⟩] scope pos) (some (.Name y py)) spos.line X.env = pure true) :
    PS X (.Assign [.Name y py] (.ListComp elt [⟨tg, iter, ifs, 0⟩] scope pos) spos) (tAsg (fun sg H Q => tLc (tI (X.kx hx) D W it) (tG (X.kx hx) g) (tT (X.kx hx) D (Wo W sg) c) (tE (X.kx hx) D (Wo W sg) e) own sg H Q) (gName i)) := by
  subst ho
  exact ps_setLcX hs0 hf0 tk hc hN hy hyl hsw hi ok hg (fun sg s H C cl fp t => PTs_of (ht sg s H C cl fp t)) (fun sg s H C cl fp t => he sg s H C cl fp t) hs
end
end MP
end

section
set_option Elab.async false
set_option linter.all false
set_option maxRecDepth 100000
/-! MP10: statements. -/
namespace MP
open PySem PySem.Spec PyProof.Rows L2

def Out.to (o : Out) (nx bk ct : Env → Store → Prop) (rt : T × Bool → Store → Prop) (ex : Nat → List T → Env → Store → Prop) : Prop :=
  match o with
  | .nxt env m => nx env m
  | .brk env m => bk env m
  | .cnt env m => ct env m
  | .ret t new m => rt (t, new) m
  | .exc c xs env m => ex c xs env m
  | .stuck => False
section
variable (K : Kx) (D : Sd) (W : WX)
def sN (w : Wd) (k : L2.St → Hp → Prop) : Env → Store → Prop := fun env m => aft K w m fun w' H' => ∀ sg, EnvR K w' env sg → k sg H'
def sX (w : Wd) : Nat → List T → Env → Store → Prop := fun c xs env m => aft K w m fun w' H' => ∀ cls d sg, ExcR D c xs cls d → EnvR K w' env sg → W cls d sg H'
/-- what is wanted behind a statement -/
def oT (w : Wd) (En : Ends) (o : Out) : Prop := o.to (sN K w En.nx) (sN K w En.bk) (sN K w En.ct) (okN K w En.rt) (sX K D W w)
def tS (st : S) : TS := fun En sg H => ∃ w m env, Sim K w m H ∧ EnvR K w env sg ∧ oT K D W w En (exec D.C st env m)
end
section
variable {K : Kx} {D : Sd} {W : WX} {w w' : Wd} {m : Store} {H : Hp} {sg : L2.St} {env : Env} {En : Ends}
theorem oT.mono {o : Out} (h : oT K D W w En o) (le : w.le w') : oT K D W w' En o := by
  cases o with
  | nxt env m => exact aft.mono h le
  | brk env m => exact aft.mono h le
  | cnt env m => exact aft.mono h le
  | ret t new m => exact aft.mono h le
  | exc c xs env m => exact aft.mono h le
  | stuck => exact h
theorem out_to {α : Type} {r : Res α} {f : α → Store → Out} (R : EnvR K w env sg) (h : oT K D W w En (r.out env f)) : r.to (fun a m => oT K D W w En (f a m)) (exV K D W w sg) := by
  cases r with
  | ok a m => exact h
  | exc c xs m => exact fun w' H' le S cls d e => h w' H' le S cls d sg e (R.mono le)
  | stuck => exact h
theorem later_oT {α : Type} {f : α → Store → Out} : Later (fun w a m => oT K D W w En (f a m)) := fun _ _ _ _ le h => h.mono le
theorem S_out {e : E} {f : T → Store → Out} (S : Sim K w m H) (R : EnvR K w env sg) (h : oT K D W w En ((eval D.C e env m).out env f)) {P : V → Hp → Prop}
    (k : ∀ t m' w' H' v, w.le w' → Sim K w' m' H' → Rep K w' t v → oT K D W w' En (f t m') → P v H') : tE K D W e sg H P :=
  ⟨w, m, env, S, R, Res.to_mono (out_to R h) (fun t m' q w' H' le S' v r => k t m' w' H' v le S' r (q.mono le)) fun _ _ _ q => q⟩
theorem S_outT {e : E} {f : Bool → Store → Out} (S : Sim K w m H) (R : EnvR K w env sg) (h : oT K D W w En ((test D.C e env m).out env f)) {P : Bool → Hp → Prop}
    (k : ∀ t m' w' H', w.le w' → Sim K w' m' H' → oT K D W w' En (f t m') → P t H') : tT K D W e sg H P :=
  ⟨w, m, env, S, R, Res.to_mono (out_to R h) (fun t m' q w' H' le S' => k t m' w' H' le S' (q.mono le)) fun _ _ _ q => q⟩
theorem S_outN {e : E} {f : T × Bool → Store → Out} (S : Sim K w m H) (R : EnvR K w env sg) (h : oT K D W w En ((evalNew D.C e env m).out env f)) {P : VK}
    (k : ∀ t m', oT K D W w En (f t m') → okN K w P t m') : tN K D W e sg H P :=
  ⟨w, m, env, S, R, Res.to_mono (out_to R h) (fun t m' q => k t m' q) fun _ _ _ q => q⟩
end
section
variable {X : Cx} {hx : Option (Addr × Nat × List T)} {D : Sd} {W : WX} {pos p : Pos}
abbrev JS (X : Cx) (hx : Option (Addr × Nat × List T)) (D : Sd) (W : WX) (m : S) (e : Stmt) : Prop := PS X e (tS (X.kx hx) D W m)
abbrev JB (X : Cx) (hx : Option (Addr × Nat × List T)) (D : Sd) (W : WX) (m : S) (e : List Stmt) : Prop := PSs X e (tS (X.kx hx) D W m)
theorem B_nil : JB X hx D W .skip [] := PSs.imp pss_nil fun En sg H ⟨w, m, env, S, R, q⟩ => (show sN (X.kx hx) w En.nx env m from q) _ _ .refl S sg R
theorem S_pass : JS X hx D W .skip (.Pass pos) := PS.imp ps_pass fun En sg H ⟨w, m, env, S, R, q⟩ => (show sN (X.kx hx) w En.nx env m from q) _ _ .refl S sg R
theorem S_brk : JS X hx D W .brk (.Break pos) := PS.imp ps_break fun En sg H ⟨w, m, env, S, R, q⟩ => (show sN (X.kx hx) w En.bk env m from q) _ _ .refl S sg R
theorem S_cnt : JS X hx D W .cnt (.Continue pos) := PS.imp ps_continue fun En sg H ⟨w, m, env, S, R, q⟩ => (show sN (X.kx hx) w En.ct env m from q) _ _ .refl S sg R
/-- the reading of a sequence -/
theorem seq_reads {K : Kx} {a b : S} {En : Ends} {sg : L2.St} {H : Hp} (h : tS K D W (.seq a b) En sg H) : tS K D W a { En with nx := tS K D W b En } sg H := by
  obtain ⟨w, m, env, S, R, q⟩ := h
  refine ⟨w, m, env, S, R, ?_⟩
  have q : oT K D W w En (match exec D.C a env m with | .nxt env m => exec D.C b env m | o => o) := q
  cases he : exec D.C a env m with
  | nxt env1 m1 => rw [he] at q; exact fun w' H' le S' sg' R' => ⟨w', m1, env1, S', R', q.mono le⟩
  | brk env1 m1 => rw [he] at q; exact q
  | cnt env1 m1 => rw [he] at q; exact q
  | ret t new m1 => rw [he] at q; exact q
  | exc c xs env1 m1 => rw [he] at q; exact q
  | stuck => rw [he] at q; exact q
theorem B_cons {a b : S} {st : Stmt} {rest : List Stmt} (h1 : JS X hx D W a st) (h2 : JB X hx D W b rest) : JB X hx D W (.seq a b) (st :: rest) :=
  PSs.imp (pss_cons h1 h2) fun En sg H h => seq_reads h
theorem B_one {a : S} {st : Stmt} (h1 : JS X hx D W a st) : JB X hx D W a [st] := pss_one h1
/-- a cell becomes a tree -/
theorem freeze_reads {K : Kx} {i : Nat} {b : S} {En : Ends} {sg : L2.St} {H : Hp} (h : tS K D W (.seq (.freeze i) b) En sg H) : tS K D W b En sg H := by
  obtain ⟨w, m, env, S, R, q⟩ := h
  have q : oT K D W w En (match exec D.C (.freeze i) env m with | .nxt env m => exec D.C b env m | o => o) := q
  have plain : oT K D W w En (exec D.C b env m) → tS K D W b En sg H := fun q => ⟨w, m, env, S, R, q⟩
  have e : exec D.C (.freeze i) env m = (match env.get i with
      | none => .stuck
      | some (.obj n) => (match (m[n]?).bind Cell.tree with | some t => Out.nxt (env.set i (some t)) (m.set n .dead) | none => .stuck)
      | some _ => .nxt env m) := rfl
  rw [e] at q
  cases hi : env.get i with
  | none => rw [hi] at q; exact q.elim
  | some t =>
    rw [hi] at q
    cases t with
    | obj n =>
      simp only at q
      cases ht : (m[n]?).bind Cell.tree with
      | none => rw [ht] at q; exact q.elim
      | some t =>
        rw [ht] at q
        obtain ⟨c, hc, hct⟩ := Option.bind_eq_some_iff.mp ht
        obtain ⟨v, hv, r⟩ := R i _ hi
        cases r with
        | @obj _ a hn =>
          cases c with
          | lst ts =>
            simp only [Cell.tree, Option.some.injEq] at hct; subst hct
            have hl : Live m n := ⟨_, hc, by simp⟩
            obtain ⟨vs, hp, rp⟩ := S.cells n a _ hn hc
            obtain ⟨h1, h2, _⟩ := S.there n a hn hl
            obtain ⟨S', le⟩ := (S.kill n).freeze hp h1 (S.killed hn hl) h2
            refine ⟨_, _, _, S', ?_, q.mono le⟩
            intro j u e
            unfold Env.get at e
            by_cases z : i = j
            · subst z
              refine ⟨.ref a, hv, ?_⟩
              by_cases z : i < env.length
              · rw [List.getElem?_set_self z] at e
                simp only [Option.bind_some, id, Option.some.injEq] at e
                subst e
                exact .lst upd_same (rp.mono le)
              · rw [List.getElem?_eq_none (by simpa using z)] at e; cases e
            · rw [List.getElem?_set_ne z] at e
              exact (R.mono le) j u e
          | dct ks vs => exact (S.cells n a _ hn hc).elim
          | _ => simp [Cell.tree] at hct
    | _ => exact plain q
theorem B_freeze {i : Nat} {b : S} {rest : List Stmt} (h2 : JB X hx D W b rest) : JB X hx D W (.seq (.freeze i) b) rest := PSs.imp h2 fun En sg H h => freeze_reads h
/-! ### names -/
/-- name = e, by any reading of e that the evaluator's has -/
theorem S_set {i : Nat} {e : E} {st : Stmt} {te : TE} (h : PS X st (tAsg te (gName i))) (hi : i < X.N.length) (imp : ∀ sg H Q, tE (X.kx hx) D W e sg H Q → te sg H Q) : JS X hx D W (.set i e) st := by
  refine ⟨fun pins s sg H En I ⟨w, m, env, S, R, q⟩ => h.run pins s sg H En I (imp _ _ _ ?_)⟩
  refine S_out S R q fun t m' w' H' v le S' r q => ?_
  exact (show sN (X.kx hx) w' En.nx (env.set i (some t)) m' from q) _ _ .refl S' _ ((R.mono le).set (by rw [I.len]; exact hi) r)
theorem Sim.alloc {K : Kx} {w : Wd} {m : Store} {H : Hp} {d : Addr} {acc : List T} {vs : List V} (A : AccS K w m H d acc vs) : Sim K ⟨w.Z, w.rho ++ [d], w.Fr⟩ (m ++ [.lst acc]) H ∧ w.le ⟨w.Z, w.rho ++ [d], w.Fr⟩ ∧ Rep K ⟨w.Z, w.rho ++ [d], w.Fr⟩ (.obj m.length) (.ref d) := by
  have S := A.sim
  have le : w.le ⟨w.Z, w.rho ++ [d], w.Fr⟩ := ⟨Sub.refl, List.prefix_append _ _, rfl⟩
  have cases_ : ∀ {n : Nat} {a : Addr}, (w.rho ++ [d])[n]? = some a → (n < m.length ∧ w.rho[n]? = some a) ∨ (n = m.length ∧ a = d) := by
    intro n a e
    by_cases h : n < w.rho.length
    · rw [List.getElem?_append_left h] at e; exact .inl ⟨by rw [← S.len]; exact h, e⟩
    · rw [List.getElem?_append_right (by omega)] at e
      have : n - w.rho.length = 0 := by
        by_cases z : n - w.rho.length = 0
        · exact z
        · rw [List.getElem?_eq_none (by simp; omega)] at e; cases e
      rw [this] at e
      simp at e
      exact .inr ⟨by rw [← S.len]; omega, e.symm⟩
  have liveL : ∀ {n : Nat}, n < m.length → Live (m ++ [.lst acc]) n → Live m n := fun {n} h ⟨c, e, ne⟩ => by
    rw [List.getElem?_append_left h] at e; exact ⟨c, e, ne⟩
  refine ⟨⟨S.z, by simp [S.len], fun i j a e1 e2 l1 l2 => ?_, fun n a e l => ?_, fun n a c e1 e2 => ?_, S.fr⟩, le, .obj ?_⟩
  · rcases cases_ e1 with ⟨h1, e1'⟩ | ⟨h1, r1⟩
    · rcases cases_ e2 with ⟨h2, e2'⟩ | ⟨h2, r2⟩
      · exact S.inj i j a e1' e2' (liveL h1 l1) (liveL h2 l2)
      · rw [r2] at e1'; exact absurd (liveL h1 l1) (A.r i e1')
    · rcases cases_ e2 with ⟨h2, e2'⟩ | ⟨h2, r2⟩
      · rw [r1] at e2'; exact absurd (liveL h2 l2) (A.r j e2')
      · rw [h1, h2]
  · rcases cases_ e with ⟨h1, e⟩ | ⟨h1, r1⟩
    · exact S.there n a e (liveL h1 l)
    · subst r1; exact ⟨A.z, A.f, _, A.at_⟩
  · rcases cases_ e1 with ⟨h1, e1⟩ | ⟨h1, r1⟩
    · rw [List.getElem?_append_left h1] at e2
      exact (S.cells n a c e1 e2).mono le
    · subst r1 h1
      rw [List.getElem?_append_right (Nat.le_refl _)] at e2
      simp at e2; subst e2
      exact ⟨vs, A.at_, A.rep.mono le⟩
  · show (w.rho ++ [d])[m.length]? = some d
    rw [← S.len]; simp
theorem S_setBox {i : Nat} {e : E} {st : Stmt} {te : TE} (h : PS X st (tAsg te (gName i))) (hi : i < X.N.length) (imp : ∀ sg H Q, tN (X.kx hx) D W e sg H Q → te sg H Q) : JS X hx D W (.setBox i e) st := by
  refine ⟨fun pins s sg H En I ⟨w, m, env, S, R, q⟩ => h.run pins s sg H En I (imp _ _ _ ?_)⟩
  refine S_outN S R q fun t m' q w' H' le S' v rv => ?_
  match t, q, rv with
  | (t, false), q, rv => exact (show False from q).elim
  | (t, true), q, rv =>
    obtain ⟨ts, a, vs, rfl, rfl, A⟩ := rv
    obtain ⟨S2, le2, r2⟩ := Sim.alloc A
    simp only [if_true, cellOf] at q
    exact (show sN (X.kx hx) w En.nx (env.set i (some (.obj m'.length))) (m' ++ [.lst ts]) from q) _ _ (le.trans le2) S2 _ (((R.mono le).mono le2).set (by rw [I.len]; exact hi) r2)
theorem S_setMany {is : List Nat} {e : E} {st : Stmt} {te : TE} (h : PS X st (tAsg te (tG (X.kx hx) (.many is)))) (imp : ∀ sg H Q, tE (X.kx hx) D W e sg H Q → te sg H Q) : JS X hx D W (.setMany is e) st := by
  refine ⟨fun pins s sg H En I ⟨w, m, env, S, R, q⟩ => h.run pins s sg H En I (imp _ _ _ ?_)⟩
  refine S_out S R q fun t m' w' H' v le S' r q => ?_
  split at q
  · rename_i env' he
    exact ⟨w', m', t, env, env', S', R.mono le, r, he, fun sg' R' _ _ => (show sN (X.kx hx) w' En.nx env' m' from q) _ _ .refl S' sg' R'⟩
  · exact q.elim
theorem S_setPar {i j : Nat} {a b : E} {st : Stmt} (h : PS X st (tPar i j (tA (X.kx hx) D W (.cons a (.cons b .nil))))) (hi : i < X.N.length) (hj : j < X.N.length) : JS X hx D W (.setPar i j a b) st := by
  refine ⟨fun pins s sg H En I ⟨w, m, env, S, R, q⟩ => h.run pins s sg H En I ?_⟩
  show tA (X.kx hx) D W (.cons a (.cons b .nil)) sg H fun vs H1 => ∃ v w, vs = [v, w] ∧ En.nx ((sg.set i (some v)).set j (some w)) H1
  refine ⟨w, m, env, S, R, ?_⟩
  rw [evals2]
  have q := out_to R (show oT (X.kx hx) D W w En ((eval D.C a env m).out env fun x m => (eval D.C b env m).out env fun y m => .nxt ((env.set i (some x)).set j (some y)) m) from q)
  cases ha : eval D.C a env m with
  | stuck => rw [ha] at q; exact q.elim
  | exc c xs m1 => rw [ha] at q; exact q
  | ok x m1 =>
    rw [ha] at q
    have q := out_to R (show oT (X.kx hx) D W w En ((eval D.C b env m1).out env fun y m => .nxt ((env.set i (some x)).set j (some y)) m) from q)
    cases hb : eval D.C b env m1 with
    | stuck => rw [hb] at q; exact q.elim
    | exc c xs m2 => rw [hb] at q; simp only [Res.bind_ok, hb]; exact q
    | ok y m2 =>
      rw [hb] at q
      simp only [Res.bind_ok, hb]
      intro w' H' le S' vs r
      obtain ⟨v, z, rfl, r1, r2⟩ := two_args r rfl
      refine ⟨v, z, rfl, (show sN (X.kx hx) w En.nx _ m2 from q) _ _ le S' _ ?_⟩
      exact ((R.mono le).set (by rw [I.len]; exact hi) r1).set (by rw [List.length_set, I.len]; exact hj) r2
theorem S_expr {e : E} {st : Stmt} {te : TE} (h : PS X st (tDrop te)) (imp : ∀ sg H Q, tE (X.kx hx) D W e sg H Q → te sg H Q) : JS X hx D W (.expr e) st := by
  refine PS.imp h fun En sg H ⟨w, m, env, S, R, q⟩ => imp _ _ _ ?_
  exact S_out S R q fun t m' w' H' v le S' r q => (show sN (X.kx hx) w' En.nx env m' from q) _ _ .refl S' _ (R.mono le)
theorem S_ite {c : E} {a b : S} {ec : Expr} {sa sb : List Stmt} (hc : JT X hx D W c ec) (ha : JB X hx D W a sa) (hb : JB X hx D W b sb) : JS X hx D W (.ite c a b) (.If ec sa sb pos) := by
  refine PS.imp (ps_if hc ha hb) fun En sg H ⟨w, m, env, S, R, q⟩ => ?_
  refine S_outT S R q fun t m' w' H' le S' q => ?_
  cases t with
  | true => simp only [if_true] at q ⊢; exact ⟨w', m', env, S', R.mono le, q⟩
  | false => simp only [Bool.false_eq_true, if_false] at q ⊢; exact ⟨w', m', env, S', R.mono le, q⟩
theorem S_ret {e : E} {ee : Expr} (he : JE X hx D W e ee) : JS X hx D W (.ret e) (.Return (some ee) pos) := by
  refine PS.imp (ps_ret he) fun En sg H ⟨w, m, env, S, R, q⟩ => ?_
  exact S_out S R q fun t m' w' H' v le S' r q => (show okN (X.kx hx) w' En.rt (t, false) m' from q) _ _ .refl S' v r
theorem S_retN : JS X hx D W (.ret (.cst .non)) (.Return none pos) := by
  refine PS.imp ps_retN fun En sg H ⟨w, m, env, S, R, q⟩ => ?_
  exact (show okN (X.kx hx) w En.rt (.non, false) m from q) _ _ .refl S _ .non
theorem S_retNew {e : E} {ee : Expr} {te : TE} (he : PE X ee te) (imp : ∀ sg H Q, tN (X.kx hx) D W e sg H Q → te sg H Q) : JS X hx D W (.retNew e) (.Return (some ee) pos) := by
  refine PS.imp (ps_ret he) fun En sg H ⟨w, m, env, S, R, q⟩ => imp _ _ _ ?_
  exact S_outN S R q fun t m' q => q
theorem S_retMove {i : Nat} {ee : Expr} (he : PE X ee (tVar i)) : JS X hx D W (.retMove i) (.Return (some ee) pos) := by
  refine PS.imp (ps_ret he) fun En sg H ⟨w, m, env, S, R, q⟩ => ?_
  have e : exec D.C (.retMove i) env m = (match env.get i with
      | some (.obj n) => (match (m[n]?).bind Cell.tree with | some t => Out.ret t true (m.set n .dead) | none => .stuck)
      | some t => .ret t false m
      | none => .stuck) := rfl
  rw [e] at q
  cases hi : env.get i with
  | none => rw [hi] at q; exact q.elim
  | some t =>
    rw [hi] at q
    obtain ⟨v, hv, r⟩ := R i _ hi
    refine ⟨v, hv, ?_⟩
    cases t with
    | obj n =>
      simp only at q
      cases ht : (m[n]?).bind Cell.tree with
      | none => rw [ht] at q; exact q.elim
      | some t =>
        rw [ht] at q
        obtain ⟨c, hc, hct⟩ := Option.bind_eq_some_iff.mp ht
        cases r with
        | @obj _ a hn =>
          cases c with
          | lst ts =>
            simp only [Cell.tree, Option.some.injEq] at hct; subst hct
            have hl : Live m n := ⟨_, hc, by simp⟩
            obtain ⟨vs, hp, rp⟩ := S.cells n a _ hn hc
            obtain ⟨h1, h2, _⟩ := S.there n a hn hl
            exact (show okN (X.kx hx) w En.rt (.lst ts, true) (m.set n .dead) from q) w H .refl (S.kill n) _ ⟨ts, a, vs, rfl, rfl, S.kill n, hp, h1, S.killed hn hl, h2, rp⟩
          | dct ks vs => exact (S.cells n a _ hn hc).elim
          | _ => simp [Cell.tree] at hct
    | _ => exact (show okN (X.kx hx) w En.rt (_, false) m from q) w H .refl S v r
/-! ### loops -/
theorem for_cons {wk : Walk} {f : T → Env → Store → Out} {K : Kx} {w : Wd} {En : Ends} {t : T} {r : List T} {env : Env} {m : Store} (h : oT K D W w En (forLoop wk f (t :: r) env m)) :
    wk.ok m = true ∧ oT K D W w En (match f t env m with
      | .nxt env m => forLoop wk f r env m
      | .cnt env m => forLoop wk f r env m
      | .brk env m => .nxt env m
      | o => o) := by
  unfold forLoop at h
  split at h
  · rename_i ok; exact ⟨ok, h⟩
  · exact h.elim
theorem for_nil {wk : Walk} {f : T → Env → Store → Out} {K : Kx} {w : Wd} {En : Ends} {env : Env} {m : Store} (h : oT K D W w En (forLoop wk f [] env m)) : wk.ok m = true ∧ sN K w En.nx env m := by
  unfold forLoop at h
  split at h
  · rename_i ok; exact ⟨ok, h⟩
  · exact h.elim
theorem S_for {g : Tgt} {it : It} {body : S} {tg iter : Expr} {sb : List Stmt} (hp : PassesOwn (model X.prog X.w) X.A X.env X.xe) (hc : X.calm = true) (hi : JI X hx D W tg it iter) (hg : PG X tg (tG (X.kx hx) g)) (hb : JB X hx D W body sb) (hs : ∀ x, foldedSetIterable iter X.env x = pure x) :
    JS X hx D W (.for g it body) (.For tg iter sb [] pos) := by
  refine PS.imp (ps_for hp hc hi hg hb hs) fun En sg H ⟨w, m, env, S, R, q⟩ => ?_
  have q := out_to R (show oT (X.kx hx) D W w En ((evalI D.C it env m).out env fun wk m => forLoop wk (fun t env m => (Res.ofO (g.set m t env) m).out env fun env m => exec D.C body env m) wk.xs env m) from q)
  refine ⟨w, m, env, S, R, Res.to_mono q (fun wk m1 q1 w1 H1 le1 S1 J hJ => ?_) fun _ _ _ z => z⟩
  let f : T → Env → Store → Out := fun t env m => (Res.ofO (g.set m t env) m).out env fun env m => exec D.C body env m
  let P : Nat → L2.St → Hp → Prop := fun i sg H => ∃ w2 m2 env2, w1.le w2 ∧ Sim (X.kx hx) w2 m2 H ∧ EnvR (X.kx hx) w2 env2 sg ∧ oT (X.kx hx) D W w2 En (forLoop wk f (wk.xs.drop i) env2 m2)
  refine ⟨fun i n sg H => n = wk.xs.length - i ∧ i ≤ wk.xs.length ∧ P i sg H, ⟨_, rfl, Nat.zero_le _, w1, m1, env, .refl, S1, R.mono le1, by rw [List.drop_zero]; exact q1.mono le1⟩, ?_⟩
  rintro i n sg' H' ⟨rfl, hi', w2, m2, env2, le2, S2, R2, q2⟩
  by_cases hlt : i < wk.xs.length
  · obtain ⟨t, ht, hdr⟩ := drop_cons hlt
    rw [hdr] at q2
    obtain ⟨okk, q3⟩ := for_cons q2
    obtain ⟨hgo, hst⟩ := hJ w2 m2 H' le2.to0 S2 okk
    obtain ⟨go, yl⟩ := hgo i t ht
    refine .inr ⟨go, P (i + 1), fun sg2 H2 p => ⟨_, by omega, rfl, hlt, p⟩, fun x H2 y => ?_⟩
    obtain ⟨w3, le3, S3, r3⟩ := yl x H2 y
    cases hset : g.set m2 t env2 with
    | none =>
      have : f t env2 m2 = .stuck := by simp only [f, hset]; rfl
      rw [this] at q3; exact q3.elim
    | some env3 =>
      have e3 : f t env2 m2 = exec D.C body env3 m2 := by simp only [f, hset]; rfl
      rw [e3] at q3
      refine ⟨w3, m2, t, env2, env3, S3, R2.mono le3, r3, hset, fun sg3 R3 _ _ => ⟨w3, m2, env3, S3, R3, ?_⟩⟩
      cases he : exec D.C body env3 m2 with
      | nxt env4 m4 => rw [he] at q3; exact fun w' H' le S' sg' R' => ⟨w', m4, env4, (le2.trans le3).trans le, S', R', (q3.mono le3).mono le⟩
      | cnt env4 m4 => rw [he] at q3; exact fun w' H' le S' sg' R' => ⟨w', m4, env4, (le2.trans le3).trans le, S', R', (q3.mono le3).mono le⟩
      | brk env4 m4 => rw [he] at q3; exact aft.mono q3 le3
      | ret t new m4 => rw [he] at q3; exact aft.mono q3 le3
      | exc c xs env4 m4 => rw [he] at q3; exact aft.mono q3 le3
      | stuck => rw [he] at q3; exact q3
  · have e : i = wk.xs.length := by omega
    subst e
    rw [List.drop_length] at q2
    obtain ⟨okk, q3⟩ := for_nil q2
    obtain ⟨_, hst⟩ := hJ w2 m2 H' le2.to0 S2 okk
    exact .inl ⟨hst, q3 _ _ .refl S2 _ R2⟩
theorem S_while {c : E} {body : S} {ec : Expr} {sb : List Stmt} (hp : PassesOwn (model X.prog X.w) X.A X.env X.xe) (hc : JT X hx D W c ec) (hb : JB X hx D W body sb) : JS X hx D W (.while c body) (.While ec sb [] pos) := by
  refine PS.imp (ps_while hp hc hb) fun En sg H ⟨w, m, env, S, R, q⟩ => ?_
  have q : oT (X.kx hx) D W w En (whileLoop (fun env m => test D.C c env m) (fun env m => exec D.C body env m) D.C.fuel env m) := q
  refine ⟨fun n sg H => ∃ w2 m2 env2, Sim (X.kx hx) w2 m2 H ∧ EnvR (X.kx hx) w2 env2 sg ∧ oT (X.kx hx) D W w2 En (whileLoop (fun env m => test D.C c env m) (fun env m => exec D.C body env m) n env2 m2), ⟨_, w, m, env, S, R, q⟩, ?_⟩
  rintro n sg' H' ⟨w2, m2, env2, S2, R2, q2⟩
  cases n with
  | zero => exact (show False from q2).elim
  | succ n =>
    have q2 : oT (X.kx hx) D W w2 En ((test D.C c env2 m2).out env2 fun b m => if b then
        (match exec D.C body env2 m with
        | .nxt env m => whileLoop (fun env m => test D.C c env m) (fun env m => exec D.C body env m) n env m
        | .cnt env m => whileLoop (fun env m => test D.C c env m) (fun env m => exec D.C body env m) n env m
        | .brk env m => .nxt env m
        | o => o) else .nxt env2 m) := q2
    refine S_outT S2 R2 q2 fun b m3 w3 H3 le3 S3 q3 => ?_
    cases b with
    | false => simp only [Bool.false_eq_true, if_false] at q3 ⊢; exact (show sN (X.kx hx) w3 En.nx env2 m3 from q3) _ _ .refl S3 _ (R2.mono le3)
    | true =>
      simp only [if_true] at q3 ⊢
      refine ⟨fun sg H => ∃ w2 m2 env2, Sim (X.kx hx) w2 m2 H ∧ EnvR (X.kx hx) w2 env2 sg ∧ oT (X.kx hx) D W w2 En (whileLoop (fun env m => test D.C c env m) (fun env m => exec D.C body env m) n env2 m2), fun sg4 H4 p => ⟨n, Nat.lt_succ_self n, p⟩, w3, m3, env2, S3, R2.mono le3, ?_⟩
      cases he : exec D.C body env2 m3 with
      | nxt env4 m4 => rw [he] at q3; exact fun w' H' le S' sg' R' => ⟨w', m4, env4, S', R', q3.mono le⟩
      | cnt env4 m4 => rw [he] at q3; exact fun w' H' le S' sg' R' => ⟨w', m4, env4, S', R', q3.mono le⟩
      | brk env4 m4 => rw [he] at q3; exact q3
      | ret t new m4 => rw [he] at q3; exact q3
      | exc c xs env4 m4 => rw [he] at q3; exact q3
      | stuck => rw [he] at q3; exact q3
end
end MP
end

section
set_option Elab.async false
set_option linter.all false
set_option maxRecDepth 100000
/-! MP11: items stored, isinstance, raise. -/
namespace MP
open PySem PySem.Spec PyProof.Rows L2
section
variable {X : Cx} {hx : Option (Addr × Nat × List T)} {D : Sd} {W : WX} {pos p : Pos}
/-- o[k] = v, o a list cell -/
theorem S_setIdx {o k v : E} {st : Stmt} (h : PS X st (tAsg (tE (X.kx hx) D W v) (gSub (tE (X.kx hx) D W o) (tE (X.kx hx) D W k) rSetL))) : JS X hx D W (.setIdx o k v) st := by
  refine PS.imp h fun En sg H ⟨w, m, env, S, R, q⟩ => ?_
  refine S_out S R q fun z m1 w1 H1 vz le1 S1 r1 q1 => ?_
  refine S_out S1 (R.mono le1) q1 fun x m2 w2 H2 vx le2 S2 r2 q2 => ?_
  refine S_out S2 ((R.mono le1).mono le2) q2 fun y m3 w3 H3 vy le3 S3 r3 q3 => ?_
  cases x with
  | obj n =>
    simp only at q3
    cases hm : m3[n]? with
    | none => rw [hm] at q3; exact q3.elim
    | some c =>
      rw [hm] at q3
      cases c with
      | lst xs =>
        cases y with
        | int i =>
          simp only at q3
          cases hj : ixT xs.length i with
          | none => rw [hj] at q3; exact q3.elim
          | some j =>
            rw [hj] at q3
            have r2' := r2.mono le3
            cases r2' with
            | @obj _ a hn =>
              cases r3
              obtain ⟨vs, hp, rp⟩ := S3.cells n a _ hn hm
              refine ⟨a, vs, i, j, rfl, rfl, hp, by rw [← rp.length, ← ixT_ixN]; exact hj, ?_⟩
              exact (show sN (X.kx hx) w3 En.nx env (m3.set n (.lst (xs.set j z))) from q3) _ _ .refl (S3.write hn ⟨_, hm, by simp⟩ ⟨_, upd_same, Reps.set ((r1.mono le2).mono le3) j rp⟩) _ (((R.mono le1).mono le2).mono le3)
        | _ => exact (show False from q3).elim
      | dct ks vs =>
        have r2' := r2.mono le3
        cases r2' with
        | @obj _ a hn => exact (S3.cells n a _ hn hm).elim
      | _ => exact (show False from q3).elim
  | _ => exact (show False from q3).elim

/-! ### isinstance -/
/-- the type of a value -/
theorem typ_rep {K : Kx} {w : Wd} {m : Store} {H : Hp} (S : Sim K w m H) {t : T} {v : V} {a : String} (r : Rep K w t v) (e : typN m t = some a) : TyX K.K H v (.type a) := by
  cases r with
  | non => simp only [typN, Option.some.injEq] at e; subst e; exact .base .non
  | bl b => simp only [typN, Option.some.injEq] at e; subst e; exact .base (.bl b)
  | int i => simp only [typN, Option.some.injEq] at e; subst e; exact .base (.int i)
  | str s => simp only [typN, Option.some.injEq] at e; subst e; exact .base (.str _)
  | lst h _ => simp only [typN, Option.some.injEq] at e; subst e; exact .base (.lst (S.z _ _ h))
  | tup h _ => simp only [typN, Option.some.injEq] at e; subst e; exact .base (.tup (S.z _ _ h))
  | @obj n a' hn =>
    simp only [typN] at e
    split at e
    · rename_i xs hm
      simp only [Option.some.injEq] at e; subst e
      obtain ⟨vs, hp, _⟩ := S.cells n a' _ hn hm
      exact .base (.lst hp)
    · rename_i ks vs hm
      exact (S.cells n a' _ hn hm).elim
    · cases e
  | _ => simp [typN] at e
def builtTy (a : String) : Bool := a == "NoneType" || a == "bool" || a == "int" || a == "str" || a == "list" || a == "tuple" || a == "dict"
theorem typ_built {m : Store} {t : T} {a : String} (e : typN m t = some a) : builtTy a = true := by
  unfold typN at e
  split at e
  case h_7 n =>
    split at e <;> first
      | (simp only [Option.some.injEq] at e; subst e; rfl)
      | cases e
  all_goals first
    | (simp only [Option.some.injEq] at e; subst e; rfl)
    | cases e
theorem kitB_sub {a : String} {y : Ty} (ha : builtTy a = true) (hy : ∀ c, y ≠ .cls c) : kitB a y.nm = some (tySub a y.nm) := by
  unfold builtTy at ha
  simp only [Bool.or_eq_true, beq_iff_eq] at ha
  rcases ha with (((((rfl | rfl) | rfl) | rfl) | rfl) | rfl) | rfl <;> cases y <;> first
    | decide +kernel
    | exact absurd rfl (hy _)
theorem isTy_kit {K : PySem.W.Frag} {sub : Nat → Nat → Option Bool} {m : Store} {t : T} {y : Ty} {b : Bool} (hy : ∀ c, y ≠ .cls c) (e : isTy sub m t y = some b) : ∃ a, typN m t = some a ∧ PySem.W.kitOne K (.type a) (.type y.nm) = some b := by
  have e : (typN m t).map (fun a => tySub a y.nm) = some b := by
    cases y <;> first
      | exact e
      | exact absurd rfl (hy _)
  obtain ⟨a, ha, rfl⟩ := Option.map_eq_some_iff.mp e
  exact ⟨a, ha, kit_ty (kitB_sub (typ_built ha) hy)⟩
/-- one built-in type -/
theorem E_isi {a : E} {y : Ty} {ea eb : Expr} {x : Str} (hy : ∀ c, y ≠ .cls c) (hg : Gl X x) (hm : X.mg x = none) (hv : bootBuiltins x = some (.builtin "isinstance")) (ha : JE X hx D W a ea) (hb : PE X eb (tC (.ty y.nm))) (hn : x ≠ "__name__") (hdb : (x == ("__debug__" : Str)) = false)
    (he : starEach [ea, eb] X.env = (false, PySem.eval ea X.env) :: starEach [eb] X.env) (he2 : starEach [eb] X.env = (false, PySem.eval eb X.env) :: starEach [] X.env) (hpl : (backTo pos (starEach [eb] X.env)).any (·.1) = false) : JE X hx D W (.isinst a [y]) (.Call (.Name x p) [ea, eb] [] pos) := by
  refine PE.imp (pe_callB call_isi hg hm hv (pa_cons ha (pa_cons hb pa_nil he2) he) hn hdb he hpl) fun sg H Q ⟨w, st, env, S, R, q⟩ => ?_
  refine tE_one S R q fun t m' w' H' v le S' r q => ?_
  obtain ⟨z, hz, q⟩ := Res.to_ofO q
  obtain ⟨b, hb', rfl⟩ := Option.map_eq_some_iff.mp hz
  have hb2 : isTy D.C.sub m' t y = some b := by
    simp only [isTys] at hb'
    cases hq : isTy D.C.sub m' t y with
    | none => rw [hq] at hb'; cases hb'
    | some c => rw [hq] at hb'; cases c <;> simpa using hb'
  obtain ⟨tn, h1, h2⟩ := isTy_kit (K := X.K) hy hb2
  exact ⟨v, .ty y.nm, .type tn, .type y.nm, b, rfl, .ty _, typ_rep S' r h1, h2, okV.use (okV.mono (show okV (X.kx hx) w Q (.bl b) m' from q) le) S' (.bl b)⟩
/-- the names of built-in types, a tuple of them -/
inductive JTy (X : Cx) : List Ty → List Expr → Prop
  | nil : JTy X [] []
  | cons {y : Ty} {ys : List Ty} {e : Expr} {es : List Expr} (hy : ∀ c, y ≠ .cls c) (h : PE X e (tC (.ty y.nm))) (hs : starEach (e :: es) X.env = (false, PySem.eval e X.env) :: starEach es X.env) (r : JTy X ys es) : JTy X (y :: ys) (e :: es)
def tys (ys : List Ty) : TA := fun _ H Q => Q (ys.map fun y => V.ty y.nm) H
theorem PA_tys : ∀ {ys : List Ty} {es : List Expr}, JTy X ys es → PA X es (tys ys)
  | _, _, .nil => PA.imp pa_nil fun _ _ _ h => h
  | _, _, .cons _ h hs r => PA.imp (pa_cons h (PA_tys r) hs) fun _ _ _ h => h
theorem tys_any {K : PySem.W.Frag} {sub : Nat → Nat → Option Bool} {m : Store} {t : T} {a : String} (ht : typN m t = some a) : ∀ {ys : List Ty} {es : List Expr} {b : Bool}, JTy X ys es → isTys sub m t ys = some b →
    Paired ClsV (ys.map fun y => V.ty y.nm) (ys.map fun y => Value.type y.nm) ∧ PySem.W.kitAny K (.type a) (ys.map fun y => Value.type y.nm) = some b
  | _, _, b, .nil, e => by simp only [isTys, Option.some.injEq] at e; subst e; exact ⟨.nil, rfl⟩
  | y :: ys, _, b, .cons hy h hs r, e => by
    simp only [isTys] at e
    obtain ⟨c, hc, e⟩ := Option.bind_eq_some_iff.mp e
    obtain ⟨a', h1, h2⟩ := isTy_kit (K := K) hy hc
    rw [ht] at h1; cases h1
    have allP : ∀ zs : List Ty, Paired ClsV (zs.map fun y => V.ty y.nm) (zs.map fun y => Value.type y.nm) := fun zs => by
      induction zs with
      | nil => exact .nil
      | cons z zs ih => exact .cons (.ty _) ih
    refine ⟨allP _, ?_⟩
    cases c with
    | true => simp only [if_true, Option.some.injEq] at e; subst e; show PySem.W.kitAny K _ (_ :: _) = _; unfold PySem.W.kitAny; rw [h2]
    | false =>
      simp only [Bool.false_eq_true, if_false] at e
      obtain ⟨_, h4⟩ := tys_any (K := K) ht r e
      show PySem.W.kitAny K _ (_ :: _) = _
      unfold PySem.W.kitAny; rw [h2]; exact h4
theorem E_isiN {a : E} {y : Ty} {ys : List Ty} {ea : Expr} {es : List Expr} {k : Nat} {pt : Pos} {x : Str} (hg : Gl X x) (hm : X.mg x = none) (hv : bootBuiltins x = some (.builtin "isinstance")) (ha : JE X hx D W a ea) (hb : JTy X (y :: ys) es) (hn : x ≠ "__name__") (hdb : (x == ("__debug__" : Str)) = false)
    (hlen : (y :: ys).length ≤ 100)
    (he : starEach [ea, .Tuple es k pt] X.env = (false, PySem.eval ea X.env) :: starEach [.Tuple es k pt] X.env) (he2 : starEach [.Tuple es k pt] X.env = (false, PySem.eval (.Tuple es k pt) X.env) :: starEach [] X.env) (hpl : (backTo pos (starEach [.Tuple es k pt] X.env)).any (·.1) = false) :
    JE X hx D W (.isinst a (y :: ys)) (.Call (.Name x p) [ea, .Tuple es k pt] [] pos) := by
  refine PE.imp (pe_callB call_isiT hg hm hv (pa_cons ha (pa_cons (pe_tup (PA_tys hb)) pa_nil he2) he) hn hdb he hpl) fun sg H Q ⟨w, st, env, S, R, q⟩ => ?_
  refine tE_one S R q fun t m' w' H' v le S' r q => ?_
  obtain ⟨z, hz, q⟩ := Res.to_ofO q
  obtain ⟨b, hb', rfl⟩ := Option.map_eq_some_iff.mp hz
  refine ⟨by rw [List.length_map, LINE_eq]; exact Nat.le_trans hlen (by decide), fun tp htp => ?_⟩
  have S2 := S'.new (o := .tup ((y :: ys).map fun y => V.ty y.nm)) htp
  have ht : ∃ a, typN m' t = some a := by
    simp only [isTys] at hb'
    obtain ⟨c, hc, _⟩ := Option.bind_eq_some_iff.mp hb'
    cases hb with
    | cons hy _ _ _ =>
      obtain ⟨a', h1, _⟩ := isTy_kit (K := X.K) hy hc
      exact ⟨a', h1⟩
  obtain ⟨tn, ht⟩ := ht
  obtain ⟨hp, hk⟩ := tys_any (K := X.K) ht hb hb'
  exact ⟨v, tp, _, .type tn, _, b, rfl, upd_same, hp, typ_rep S2 r ht, hk, okV.use (okV.mono (show okV (X.kx hx) w Q (.bl b) m' from q) le) S2 (.bl b)⟩

/-! ### raise -/
/-- C(e) of an own exception class without __init__; the argument is dropped -/
theorem pmk1 {C : Addr} {bmB : List Value} {B newId initId : String} {x : Str} {e : Expr} {ta : TA} (F : ExcBaseFacts B newId initId bmB) (q : PySem.W.excIn X.K C bmB newId = true) (gC : X.mg x = some (.ref C)) (kC : PySem.W.keepIn X.K (.ref C) = true) (r : Raises X (.ref C)) (hg : Gl X x)
    (ha : PA X [e] ta) (hs : starEach [e] X.env = (false, PySem.eval e X.env) :: starEach [] X.env) (hdb : (x == ("__debug__" : Str)) = false) : L2N.PMk X (.Call (.Name x p) [e] [] pos) (fun sg H Q => ta sg H fun vs H1 => ∃ v, vs = [v] ∧ Q (.ref C) none H1) := by
  intro pins s sg H Q I h
  refine wpAny_Call_Name_kw (ld_glob I hg gC ?_ hdb)
  refine PySem.W.callWith_K (h₀ := X.base) I.ok.mod.kin kC (thn (ha.run pos pins s sg H _ I h) fun us s1 ⟨vs, H1, I1, r1, v, ev, q1⟩ => ?_) hs (by rfl)
  subst ev
  obtain ⟨u, rfl, ru⟩ := vals1 r1
  refine ⟨I1.kIn, ?_⟩
  obtain ⟨bm, N, nm, qn, bs, hdct, sn, sub, ab, col, dd, k0, k1, k2, k3, k5, mN, hC, hN, hni, T⟩ := exc_obj I1.kIn q
  refine wpAny_call_exc_subT F T hC hN hni (fun h' e hm => ?_) (by show 1 ≤ sizeLine; rw [sizeLine_eq]; omega)
  exact L2N.mk_of I1 hm r q1 (I1.hok.gone hm.new)
/-- C(): without argument -/
theorem S_raise {c : Nat} {C : Addr} {bmB : List Value} {B newId initId : String} {x : Str} {a : E} {e : Expr} {p2 : Pos} (hc : X.calm = true) (tk : L2N.Takes X W) (hC : D.cA c = C) (F : ExcBaseFacts B newId initId bmB) (q : PySem.W.excIn X.K C bmB newId = true) (gC : X.mg x = some (.ref C)) (kC : PySem.W.keepIn X.K (.ref C) = true) (r : Raises X (.ref C)) (hg : Gl X x)
    (ha : JE X hx D W a e) (hs : starEach [e] X.env = (false, PySem.eval e X.env) :: starEach [] X.env) (hdb : (x == ("__debug__" : Str)) = false) : JS X hx D W (.raise c false (.cons a .nil)) (.Raise (some (.Call (.Name x p) [e] [] pos)) none p2) := by
  refine PS.imp (L2N.ps_raise hc tk (pmk1 F q gC kC r hg (A_cons ha A_nil hs) hs hdb)) fun En sg H ⟨w, m, env, S, R, q⟩ => ?_
  have q := out_to R (show oT (X.kx hx) D W w En ((evals D.C (.cons a .nil) env m).out env fun xs m => .exc c [] env m) from q)
  refine ⟨w, m, env, S, R, ?_⟩
  rw [evals1] at q ⊢
  cases he : eval D.C a env m with
  | stuck => rw [he] at q; exact q.elim
  | exc c xs m1 => rw [he] at q; exact q
  | ok t m1 =>
    rw [he] at q
    intro w' H' le S' vs rv
    obtain ⟨v, rfl, _⟩ := one_arg rv rfl
    refine ⟨v, rfl, ?_⟩
    rw [← hC]
    exact (show sX (X.kx hx) D W w c [] env m1 from q) w' H' le S' _ _ _ ⟨rfl, rfl, rfl⟩ (R.mono le)
end
end MP
end

section
set_option Elab.async false
set_option linter.all false
set_option maxRecDepth 100000
/-! MS2: join, list(range(..)). -/
namespace MP
open PySem PySem.Spec PyProof.Rows L2
theorem str_eq_of_beq {a b : Str} (h : (a == b) = true) : a = b := by simpa using h
theorem strJoin_eq (sep : Nm) : ∀ l : List Nm, Str.join (toStr sep) (l.map toStr) = toStr (joinT sep l)
  | [] => rfl
  | [a] => rfl
  | a :: b :: r => by
    show toStr a ++ toStr sep ++ Str.join (toStr sep) ((b :: r).map toStr) = toStr (a ++ (sep ++ joinT sep (b :: r)))
    rw [strJoin_eq sep (b :: r), ← toStr_append, ← toStr_append, List.append_assoc]
theorem join_eq (sep : Nm) (l : List Nm) : Txt.join (toStr sep) (l.map toStr) = toStr (joinT sep l) := by
  rw [← strJoin_eq]
  exact str_eq_of_beq (join_closes rfl)
theorem strsOf_rep {K : Kx} {w : Wd} : ∀ {ts : List T} {vs : List V} {l : List Nm}, Reps K w ts vs → strsOf ts = some l → vs = (l.map toStr).map V.str
  | [], _, l, .nil, e => by simp [strsOf] at e; subst e; rfl
  | _ :: _, _, l, .cons h r, e => by
    cases h <;> simp only [strsOf, reduceCtorEq] at e
    obtain ⟨l', h1, rfl⟩ := Option.map_eq_some_iff.mp e
    rw [strsOf_rep r h1]; rfl
theorem upFrom_eq : ∀ (n : Nat) (lo : Int), upFrom lo n = (List.range n).map fun (i : Nat) => T.int (lo + i)
  | 0, _ => rfl
  | n + 1, lo => by
    rw [List.range_succ_eq_map, List.map_cons, List.map_map]
    show T.int lo :: upFrom (lo + 1) n = _
    rw [upFrom_eq n (lo + 1)]
    congr 1
    · simp
    · refine List.map_congr_left fun i _ => ?_
      show T.int (lo + 1 + i) = T.int (lo + ((i + 1 : Nat) : Int))
      congr 1; omega
theorem reps_rg {K : Kx} {w : Wd} (a b : Int) : Reps K w (upFrom a (b - a).toNat) (rgV a b) := by
  rw [upFrom_eq]
  unfold rgV
  have : ∀ l : List Nat, Reps K w (l.map fun (i : Nat) => T.int (a + i)) (l.map fun (i : Nat) => V.int (a + i)) := by
    intro l
    induction l with
    | nil => exact .nil
    | cons x l ih => exact .cons (.int _) ih
  exact this _
section
variable {X : Cx} {hx : Option (Addr × Nat × List T)} {D : Sd} {W : WX}
theorem rng_ok {j : Int} (h : rngOk j = true) : -(2 ^ 62) ≤ j ∧ j < 2 ^ 62 := by
  unfold rngOk at h
  simp only [Bool.and_eq_true, decide_eq_true_eq] at h
  omega
theorem E_listR1 {a : E} {ea : Expr} {p p2 pos pos2 : Pos} (hc : X.calm = true) (hg : Gl X "list") (hm : X.mg "list" = none) (hg2 : Gl X "range") (hm2 : X.mg "range" = none) (ha : JE X hx D W a ea) (hs : starEach [ea] X.env = [(false, PySem.eval ea X.env)]) :
    JE X hx D W (.listI (.rng a)) (.Call (.Name "list" p) [.Call (.Name "range" p2) [ea] [] pos2] [] pos) := by
  refine PE.imp (pe_listRg hc hg hm (prg_1 hg2 hm2 ha hs)) fun sg H Q ⟨w, st, env, S, R, q⟩ => ?_
  have e : eval D.C (.listI (.rng a)) env st = (eval D.C a env st).bind fun x m => (match x with | .int j => if rngOk j then Res.ok (Walk.mk (upFrom 0 j.toNat) none false) m else .stuck | _ => .stuck).bind fun w m => shortL w.xs m := by
    show ((eval D.C a env st).bind _).bind _ = _
    first | (rw [Res.bind_assoc]; done) | (rw [Res.bind_assoc]; congr 1)
  rw [e] at q
  refine tE_one S R q fun t m' w' H' v le S' r q => ?_
  cases r with
  | int j =>
    simp only at q
    by_cases h : rngOk j = true
    · rw [if_pos h, Res.bind_ok] at q
      simp only [shortL] at q
      by_cases hl : (upFrom 0 j.toNat).length ≤ LINE
      · rw [if_pos hl] at q
        have hj := rng_ok h
        have len : (upFrom 0 j.toNat).length = j.toNat := by rw [upFrom_eq, List.length_map, List.length_range]
        rw [len] at hl
        refine ⟨j, rfl, ⟨by omega, by omega, hj.1, hj.2, by rw [Int.sub_zero]; exact hl⟩, fun p hp => ?_⟩
        obtain ⟨S2, le2⟩ := S'.newZ hp (.lst (rgV 0 j))
        have rr := reps_rg (K := X.kx hx) (w := ⟨upd w'.Z p (.lst (rgV 0 j)), w'.rho, w'.Fr⟩) 0 j
        rw [Int.sub_zero] at rr
        exact q _ _ (le.trans le2) S2 _ (.lst upd_same rr)
      · rw [if_neg hl] at q; exact q.elim
    · rw [if_neg h] at q; exact q.elim
  | _ => exact q.elim
theorem E_listR2 {a b : E} {ea eb : Expr} {p p2 pos pos2 : Pos} (hc : X.calm = true) (hg : Gl X "list") (hm : X.mg "list" = none) (hg2 : Gl X "range") (hm2 : X.mg "range" = none) (ha : JE X hx D W a ea) (hb : JE X hx D W b eb) (hs : starEach [ea, eb] X.env = [(false, PySem.eval ea X.env), (false, PySem.eval eb X.env)]) (hs2 : starEach [eb] X.env = [(false, PySem.eval eb X.env)]) (hpl : (backTo pos2 (starEach [eb] X.env)).any (·.1) = false) :
    JE X hx D W (.listI (.rng2 a b)) (.Call (.Name "list" p) [.Call (.Name "range" p2) [ea, eb] [] pos2] [] pos) := by
  refine PE.imp (pe_listRg hc hg hm (prg_2 hg2 hm2 ha hb (by rw [hs, hs2]) hs2 hpl)) fun sg H Q ⟨w, st, env, S, R, q⟩ => ?_
  have e : eval D.C (.listI (.rng2 a b)) env st = (eval D.C a env st).bind fun x m => (eval D.C b env m).bind fun y m => (match x, y with | .int i, .int j => if rngOk i && rngOk j then Res.ok (Walk.mk (upFrom i (j - i).toNat) none false) m else .stuck | _, _ => .stuck).bind fun w m => shortL w.xs m := by
    show ((eval D.C a env st).bind _).bind _ = _
    rw [Res.bind_assoc]
    congr 1; funext x m
    first | (rw [Res.bind_assoc]; done) | (rw [Res.bind_assoc]; congr 1)
  rw [e] at q
  refine tE_one S R q fun t m' w' H' v le S' r q => ?_
  refine tE_one S' (R.mono le) (to_later q le) fun t2 m2 w2 H2 v2 le2 S2 r2 q => ?_
  rcases t with _ | _ | i | _ | _ | _ | _ | _ | _ | _ | _ <;> first | exact q.elim | skip
  rcases t2 with _ | _ | j | _ | _ | _ | _ | _ | _ | _ | _ <;> first | exact q.elim | skip
  cases r; cases r2
  simp only at q
  by_cases h : (rngOk i && rngOk j) = true
  · rw [if_pos h, Res.bind_ok] at q
    simp only [shortL] at q
    by_cases hl : (upFrom i (j - i).toNat).length ≤ LINE
    · rw [if_pos hl] at q
      obtain ⟨h1, h2⟩ := Bool.and_eq_true _ _ ▸ h
      have hi := rng_ok h1
      have hj := rng_ok h2
      have len : (upFrom i (j - i).toNat).length = (j - i).toNat := by rw [upFrom_eq, List.length_map, List.length_range]
      rw [len] at hl
      refine ⟨i, j, rfl, rfl, ⟨hi.1, hi.2, hj.1, hj.2, hl⟩, fun p hp => ?_⟩
      obtain ⟨S3, le3⟩ := S2.newZ hp (.lst (rgV i j))
      exact q _ _ (le2.trans le3) S3 _ (.lst upd_same (reps_rg i j))
    · rw [if_neg hl] at q; exact q.elim
  · rw [if_neg h] at q; exact q.elim
theorem E_join {o a : E} {eo ea : Expr} {apos pos : Pos} (ho : JE X hx D W o eo) (ha : JE X hx D W a ea) (hs : starEach [ea] X.env = [(false, PySem.eval ea X.env)]) (hbase : attributeBase eo "join" X.env (PySem.eval eo X.env) = PySem.eval eo X.env) (hline : (apos.endLine == pos.line) = true) :
    JE X hx D W (.meth .join o (.cons a .nil)) (.Call (.Attribute eo "join" apos) [ea] [] pos) := by
  refine PE.imp (pe_join ho ha hs hbase hline) fun sg H Q ⟨w, st, env, S, R, q⟩ => ?_
  refine tE_one S R q fun t m' w' H' v le S' r q => ?_
  by_cases ok : mtOk m' .join t = true
  · rw [if_pos ok] at q
    cases r with
    | str sep =>
      refine ⟨⟨_, rfl⟩, ?_⟩
      have e : (evals D.C (.cons a .nil) env m').bind (fun xs m => Res.ofO (methT m .join (.str sep) xs) m) = (eval D.C a env m').bind fun x m => Res.ofO (methT m .join (.str sep) [x]) m := by
        show ((eval D.C a env m').bind fun x m => (Res.ok [] m : Res (List T)).bind fun xs m => .ok (x :: xs) m).bind _ = _
        rw [Res.bind_assoc]; rfl
      rw [e] at q
      refine tE_one S' (R.mono le) (to_later q le) fun t2 m2 w2 H2 v2 le2 S2 r2 q => ?_
      obtain ⟨z, hz, q⟩ := Res.to_ofO q
      simp only [methT] at hz
      split at hz
      · rename_i sep' ys e1 hy
        cases e1
        obtain ⟨l, h1, h2⟩ := Option.bind_eq_some_iff.mp hz
        split at h2
        · rename_i hlen
          cases h2
          obtain ⟨p, vs, rfl, hp, rp⟩ := vwL_rep S2 r2 hy
          have := strsOf_rep rp h1
          subst this
          refine ⟨toStr sep, p, l.map toStr, rfl, rfl, .inl (.of hp), ?_, ?_⟩
          · rw [List.map_map, List.length_map, toStr_len]
            have : (l.map ((fun x => x.length) ∘ toStr)) = l.map List.length := List.map_congr_left fun x _ => toStr_len x
            rw [this]; exact hlen
          · rw [join_eq]
            exact q _ _ le2 S2 _ (.str _)
        · cases h2
      · cases hz
    | _ => simp [mtOk] at ok
  · rw [if_neg ok] at q; exact q.elim
end
end MP
end

section
set_option Elab.async false
set_option linter.all false
set_option maxRecDepth 100000
set_option maxHeartbeats 1000000
/-! MS3: list(reversed(a list)). -/
namespace MP
open PySem PySem.Spec PyProof.Rows L2 RT
section
variable {prog : Program} {w : World} {A : Around} {E : Value → Shared → Prop} {s : Shared}
/-- what a new list takes from the end of another one -/
theorem back_takes {R : Result → Shared → Prop} {it src new : Addr} {us : Array Value} {out : Value} {cap : Nat} (calm : A.handled = none) (atIt : s.heap.IsRevIter it src ((us.size : Int) - 1)) (atSrc : s.heap.IsList src us) (off : src ≠ it) (offN : src ≠ new) (short : us.size ≤ sizeLine)
    (atNew : s.heap.get? new = some { cls := .type "list", data := .seq #[] cap })
    (then_ : ∀ heap2 tk got cap2, (∀ b o, b ≠ it → b ≠ new → s.heap.get? b = some o → heap2.get? b = some o) → heap2.get? new = some { cls := .type "list", dict := none, data := .seq got cap2, slots := #[] } →
      ItemsOf (fun i v => us[us.size - 1 - i]? = some v) got us.size → R (.ok (.ret out)) { s with heap := heap2, toks := tk }) :
    wpAny (model prog w) A.in1 (Builtin.List.listExtendWith (.ref new) (.ref it) out)
      (fun fin s2 => match fin with | .done f => R (.ok f) s2 | .again c2 => c2.quiet = true ∧ codeAny (model prog w) A c2 R s2) (fun e s2 => R (.error e) s2) s := by
  have walk := (Walks.listRev (prog := prog) (w := w) (A := A.in1) calm it src off us).toS
  have clsIt : s.TypeIs (.ref it) "list_reverseiterator" := atIt.typeIs
  have nIt : new ≠ it := fun e => by
    obtain ⟨o, ho, hc⟩ := clsIt
    rw [← e, atNew] at ho
    rw [← Option.some.inj ho] at hc
    simp at hc
  have nBoth : new ∉ [it, src] := by simp only [List.mem_cons, List.not_mem_nil, or_false, not_or]; exact ⟨nIt, Ne.symm offN⟩
  unfold Builtin.List.listExtendWith
  refine wpAny_bind (wpAny_typeOf clsIt ?_)
  rw [if_neg (by rw [show Builtin.List.listSameRef (.ref new) (.ref it) = false by simp [Builtin.List.listSameRef, nIt]]; decide)]
  refine wpAny_bind (wpAny_pyIter_revIter atIt ?_)
  refine wpAny_bind (wpAny_holding ?_)
  unfold Builtin.List.listLengthHint
  refine wpAny_bind (wpAny_specialOf clsIt nolen_lri ?_)
  show wpAny _ A.in1 (specialOf (Value.ref it) (Str.ofString "__length_hint__") >>= _) _ _ _
  refine wpAny_bind (wpAny_specialOf clsIt hint_lri ?_)
  generalize hid : ("list_reverseiterator.__length_hint__" : String) = idn
  wp_delta
  rw [show splitId idn = some ("list_reverseiterator", "__length_hint__") from by subst hid; decide +kernel]
  subst hid
  refine wpAny_bind (wpAny_isInstance (b := true) clsIt (by rw [isSubtype_type]; kernel_rfl) ?_)
  refine wpAny_pure ?_
  rw [if_neg (by decide)]
  have one : ((us.size : Nat) : Int) - 1 - ((0 : Nat) : Int) = (us.size : Int) - 1 := by omega
  refine wpAny_pure ⟨plainId_quiet F.plain_extend_loop _, codeAny_extend_loopS walk short _ nBoth _ us.size 0 _ _ _ rfl (Nat.zero_le _) ⟨Nat.zero_le _, by rw [one]; exact atIt, atSrc⟩ atNew (ItemsOf.nil _) fun s2 got cap2 hm hS2 all => ?_⟩
  rw [Moved.eq_with hm]
  refine then_ s2.heap s2.toks got cap2 (fun b o b1 b2 e => hm.heap b o (fun hmem => ?_) e) hS2 all
  rcases List.mem_cons.mp hmem with z | z
  · exact b2 z
  · exact b1 (List.mem_singleton.mp z)
/-- list(reversed(..)): the new list is built -/
theorem back_built {R : Result → Shared → Prop} {it src new : Addr} {us : Array Value} (calm : A.handled = none) (atIt : s.heap.IsRevIter it src ((us.size : Int) - 1)) (atSrc : s.heap.IsList src us) (off : src ≠ it) (offN : src ≠ new) (short : us.size ≤ sizeLine)
    (atNew : s.heap.get? new = some { cls := .type "list", data := .seq #[] })
    (then_ : ∀ heap2 tk got cap2, (∀ b o, b ≠ it → b ≠ new → s.heap.get? b = some o → heap2.get? b = some o) → heap2.get? new = some { cls := .type "list", dict := none, data := .seq got cap2, slots := #[] } →
      ItemsOf (fun i v => us[us.size - 1 - i]? = some v) got us.size → R (.ok (.ret .none)) { s with heap := heap2, toks := tk }) :
    wpAny (model prog w) A.in1 (Builtin.«list.__init__» ⟨[.ref new, .ref it], []⟩)
      (fun fin s2 => match fin with | .done f => R (.ok f) s2 | .again c2 => c2.quiet = true ∧ codeAny (model prog w) A c2 R s2) (fun e s2 => R (.error e) s2) s := by
  have nIt : new ≠ it := fun e => by
    obtain ⟨o, ho, hc⟩ : s.TypeIs (.ref it) "list_reverseiterator" := atIt.typeIs
    rw [← e, atNew] at ho
    rw [← Option.some.inj ho] at hc
    simp at hc
  show wpAny _ _ (do let was ← Builtin.List.listItems (.ref new); Builtin.List.listUpdate (.ref new) (fun _ => #[]); letGo was.toList.reverse; Builtin.List.listExtendWith (.ref new) (.ref it) .none) _ _ s
  refine wpAny_bind ?_
  unfold Builtin.List.listItems
  refine wpAny_bind (wpAny_seqItems atNew rfl (wpAny_pure ?_))
  show wpAny _ _ (updateSeq new (fun _ => #[]) >>= fun _ => letGo (#[] : Array Value).toList.reverse >>= fun _ => Builtin.List.listExtendWith (.ref new) (.ref it) .none) _ _ s
  refine wpAny_bind (wpAny_updateSeq atNew rfl ?_)
  have again := Heap.get?_update_self (Obj.mapSeq (fun _ => (#[] : Array Value))) atNew rfl
  have rest : ∀ b o, b ≠ new → s.heap.get? b = some o → (s.heap.update new (Obj.mapSeq (fun _ => (#[] : Array Value)))).get? b = some o :=
    fun b o hb e => (Heap.get?_update_other _ _ (Ne.symm hb)).trans e
  refine wpAny_bind (wpAny_letGo ?_)
  refine back_takes calm (atIt.at fun o e => rest it o (Ne.symm nIt) e) ?_ off offN short again fun heap2 tk got cap2 hk hS all => ?_
  · obtain ⟨o, ho, hc⟩ := atSrc
    exact ⟨o, rest src o offN ho, hc⟩
  · exact then_ heap2 tk got cap2 (fun b o b1 b2 e => hk b o b1 b2 (rest b o b2 e)) hS all
theorem call_list_back {Q : Value → Shared → Prop} {it src : Addr} {us : Array Value} (calm : A.handled = none) (atIt : s.heap.IsRevIter it src ((us.size : Int) - 1)) (atSrc : s.heap.IsList src us) (off : src ≠ it) (short : us.size ≤ sizeLine)
    (then_ : ∀ heap2 tk got cap2, (∀ b o, b ≠ it → s.heap.get? b = some o → heap2.get? b = some o) → heap2.get? s.heap.objs.size = some { cls := .type "list", dict := none, data := .seq got cap2, slots := #[] } →
      ItemsOf (fun i v => us[us.size - 1 - i]? = some v) got us.size → Q (.ref s.heap.objs.size) { s with heap := heap2, toks := tk }) :
    wpAny (model prog w) A (call (.type "list") [.ref it]) Q E s := by
  refine callType_codes (Q₁ := fun o2 s2 => o2 = .ref s.heap.objs.size ∧ s2 = { s with heap := s.heap.push { cls := .type "list", data := .seq #[] } }) F.called_list (F.typeCall_list_1 _) F.entry_list_init
    (code_list_new _ ⟨rfl, rfl⟩) fun o2 s2 at2 => ?_
  obtain ⟨rfl, rfl⟩ := at2
  have made : (s.heap.push { cls := .type "list", data := .seq #[] }).get? s.heap.objs.size = some { cls := .type "list", data := .seq #[] } := Heap.get?_push_size _ rfl
  obtain ⟨o3, ho3, _⟩ := id atSrc
  refine ⟨⟨_, made, rfl⟩, F.args_list_init_2 _ _, back_built (A := A.in1) (s := { s with heap := s.heap.push { cls := .type "list", data := .seq #[] } }) calm (atIt.at fun o e => Heap.get?_push_of_some _ e) (atSrc.push _) off (Nat.ne_of_lt (Heap.lt_size ho3)) short made fun heap2 tk got cap2 hk hS all => ?_⟩
  exact ⟨rfl, then_ heap2 tk got cap2 (fun b o b1 e => hk b o b1 (Nat.ne_of_lt (Heap.lt_size e)) (Heap.get?_push_of_some _ e)) hS all⟩
end
/-- list(reversed(x)), x a list: a new list -/
def tListBack (K : PySem.W.Frag) (te : TE) : TE := fun σ H Q => te σ H fun v H1 => ∃ (a : Addr) (xs : List V), v = .ref a ∧ SqL K H1 a xs ∧ ∀ q, H1 q = none → Q (.ref q) (upd H1 q (.lst xs.reverse))
theorem pe_listBack {X : Cx} {e : Expr} {te : TE} {p p2 pos pos2 : Pos} (hc : X.calm = true) (hg : Gl X "list") (hm : X.mg "list" = none) (hg2 : Gl X "reversed") (hm2 : X.mg "reversed" = none) (he : PE X e te)
    (hs : starEach [e] X.env = (false, PySem.eval e X.env) :: starEach [] X.env)
    (hs2 : starEach [.Call (.Name "reversed" p2) [e] [] pos2] X.env = (false, PySem.eval (.Call (.Name "reversed" p2) [e] [] pos2) X.env) :: starEach [] X.env) :
    PE X (.Call (.Name "list" p) [.Call (.Name "reversed" p2) [e] [] pos2] [] pos) (tListBack X.K te) := by
  refine ⟨fun pins s σ H Q I h => ?_⟩
  refine Call_ (ld_blt I hg hm boot_list (PyProof.Rows.callWith_type1 (args_cons (Call_ (ld_blt I hg2 hm2 PyProof.Rows.boot_reversed (PyProof.Rows.callWith_type1 (args_cons (thn (he.run pins s σ H _ I h) fun u s1 ⟨v, H1, I1, r1, q1⟩ => args_nil ?_) hs) hs rfl))) hs2) hs2 rfl))
  obtain ⟨a, xs, ev, hq, q⟩ := q1
  subst ev
  obtain rfl : u = Value.ref a := r1
  obtain ⟨its, rv, body, hz⟩ := I1.list hq
  refine call_reversed_list body.isList (args_nil ?_)
  have kept : ∀ b o, s1.heap.get? b = some o → (s1.heap.push (revObj a ((its.toArray.size : Int) - 1))).get? b = some o := fun b o e => Heap.get?_push_of_some _ e
  have I2 : Inv X pins σ H1 { s1 with heap := s1.heap.push (revObj a ((its.toArray.size : Int) - 1)) } := I1.kept (t' := s1.toks) kept
  have isl := body.isList
  obtain ⟨o1, ho1, _⟩ := id isl
  have off : a ≠ s1.heap.objs.size := Nat.ne_of_lt (Heap.lt_size ho1)
  have short : its.toArray.size ≤ sizeLine := by rw [List.size_toArray, ← rv.length]; exact hz
  refine call_list_back (s := { s1 with heap := s1.heap.push (revObj a ((its.toArray.size : Int) - 1)) }) (I1.ok.hd hc) ⟨_, Heap.get?_push_size _ rfl, rfl, rfl⟩ (isl.push _) off short fun heap2 tk got cap2 hk hS all => ?_
  refine ⟨.ref _, upd H1 _ (.lst xs.reverse), I2.turnedNew (t' := tk) (ch := [s1.heap.objs.size]) (fun b o hb e => hk b o (fun z => hb (by simp [z])) e) (fun b hb => ?_) (Nat.le_refl _) (show ObjOk X.prog X.w _ _ _ (.lst xs.reverse) from ⟨by rw [List.length_reverse]; exact hz, got.toList, cap2, vals_rev rv all, ?_⟩), rfl, q _ (I2.hok.fresh (Nat.le_refl _))⟩
  · have e : b = s1.heap.objs.size := by simpa using hb
    rw [e]
    exact I1.fpOk (H' := H1) (b := s1.heap.objs.size) (Nat.le_refl _) (I1.hok.fresh (Nat.le_refl _))
  · rw [Array.toArray_toList]; exact hS
section
variable {X : Cx} {hx : Option (Addr × Nat × List T)} {D : Sd} {W : WX}
theorem reps_back {K : Kx} {w : Wd} : ∀ {ts : List T} {vs : List V}, Reps K w ts vs → Reps K w ts.reverse vs.reverse
  | _, _, .nil => .nil
  | _, _, .cons h r => by rw [List.reverse_cons, List.reverse_cons]; exact (reps_back r).append (.cons h .nil)
theorem E_listBack {a : E} {ea : Expr} {p p2 pos pos2 : Pos} (hc : X.calm = true) (hg : Gl X "list") (hm : X.mg "list" = none) (hg2 : Gl X "reversed") (hm2 : X.mg "reversed" = none) (ha : JE X hx D W a ea) (hs : starEach [ea] X.env = [(false, PySem.eval ea X.env)]) :
    JE X hx D W (.listI (.rev a)) (.Call (.Name "list" p) [.Call (.Name "reversed" p2) [ea] [] pos2] [] pos) := by
  refine PE.imp (pe_listBack hc hg hm hg2 hm2 ha hs rfl) fun sg H Q ⟨w, st, env, S, R, q⟩ => ?_
  have e : eval D.C (.listI (.rev a)) env st = (eval D.C a env st).bind fun x m => (match x with | .lst xs => Res.ok (Walk.mk xs.reverse none false) m | _ => .stuck).bind fun w m => shortL w.xs m := by
    show ((eval D.C a env st).bind _).bind _ = _
    first | (rw [Res.bind_assoc]; done) | (rw [Res.bind_assoc]; congr 1)
  rw [e] at q
  refine tE_one S R q fun t m' w' H' v le S' r q => ?_
  cases r with
  | @lst p vs ts hp rp =>
    simp only [Res.bind_ok, shortL] at q
    by_cases hl : ts.reverse.length ≤ LINE
    · rw [if_pos hl] at q
      refine ⟨p, vs, rfl, .of (S'.z _ _ hp), fun p2 hp2 => ?_⟩
      obtain ⟨S2, le2⟩ := S'.newZ hp2 (.lst vs.reverse)
      exact q _ _ (le.trans le2) S2 _ (.lst upd_same (reps_back (rp.mono le2)))
    · rw [if_neg hl] at q; exact q.elim
  | _ => exact q.elim
end
end MP
end

section
set_option Elab.async false
set_option linter.all false
set_option maxRecDepth 100000
/-! MP12: the check that a text is what the evaluator's words say: expressions. -/
namespace MP
open PySem PySem.Spec PyProof.Rows L2

/-- what the module's names are -/
structure Lk where
  /-- defs: which one, its defaults -/
  fns : List (Str × Nat × List T)
  cls : List (Str × Nat)
  cst : List (Str × T)
  /-- built-in names that the module leaves alone -/
  free : List Str
  /-- the def that tells a refused deed's kind -/
  rfn : Option Str
  /-- within an except suite -/
  hot : Bool
  /-- .. classes that isinstance asks an exception for -/
  isx : List (Str × Nat)
  /-- not within a comprehension -/
  top : Bool
abbrev Lk.low (L : Lk) : Lk := { L with top := false }
def visB (sc : Scope) (x : Str) : Bool := match sc.names.lookup x with
  | some .local => true
  | some .cell => true
  | some .free => true
  | _ => false
def varB (N : List Str) (sc : Scope) (i : Nat) (x : Str) : Bool := decide (N[i]? = some x) && visB sc x && !(x == ("__debug__" : Str)) && !(x == ("__classdict__" : Str))
/-- a name that is set (cl: of the def itself, where it may be a cell) -/
abbrev allN : Str → Bool := fun _ => true
abbrev noN : Str → Bool := fun _ => false
/-- the cells of a comprehension's own scope -/
def ownC (scope : Scope) : Str → Bool := fun x => scope.names.lookup x == some .cell
def tgB (cl : Str → Bool) (N : List Str) (sc : Scope) (i : Nat) (x : Str) : Bool := decide (N[i]? = some x) && (decide (sc.names.lookup x = some .local) || (cl x && decide (sc.names.lookup x = some .cell)))
def glB (sc : Scope) (x : Str) : Bool := decide (sc.names.lookup x = some .globalImplicit) && !(x == ("__debug__" : Str)) && decide (x ≠ ("__name__" : Str))
def freeB (L : Lk) (sc : Scope) (x : Str) : Bool := glB sc x && L.free.contains x
def notStar : Expr → Bool
  | .Starred .. => false
  | _ => true
def notSet : Expr → Bool
  | .Set .. => false
  | _ => true
def notSlice : Expr → Bool
  | .Slice .. => false
  | _ => true
def notLc : Expr → Bool
  | .ListComp .. => false
  | .SetComp .. => false
  | .DictComp .. => false
  | _ => true
/-- not f() -/
def plainBase : Expr → Bool
  | .Call (.Name ..) [] [] _ => false
  | _ => true
def cstB : T → Const → Bool
  | .non, .none => true
  | .bl b, .bool c => b == c
  | .int i, .int j => decide (i = j)
  | .str s, .str x => decide (toStr s = x)
  | _, _ => false
def isNonC : E → Bool
  | .cst .non => true
  | _ => false
def isTrueC : E → Bool
  | .cst (.bl true) => true
  | _ => false
def blkB (N : List Str) (sc scope : Scope) (own : List Nat) : Bool :=
  decide (scope.kind = .function) && (scope.names.all fun y => decide (scope.names.lookup y.1 = some y.2)) && (own.all fun i => decide (i < N.length)) &&
  (scope.names.all fun y => !(decide (y.2 = .free)) || decide (sc.names.lookup y.1 = some .cell) || decide (sc.names.lookup y.1 = some .free)) &&
  (scope.names.all fun y => !(decide (y.2 = .local) || decide (y.2 = .cell)) || (own.any fun i => decide (N[i]? = some y.1)) || !(N.any fun z => decide (z = y.1)))
def ckGs (cl : Str → Bool) (N : List Str) (sc : Scope) : List Nat → List Expr → Bool
  | [], [] => true
  | i :: is, e :: es => (match e with | .Name x _ => tgB cl N sc i x | _ => false) && ckGs cl N sc is es
  | _, _ => false
def ckG (cl : Str → Bool) (N : List Str) (sc : Scope) (g : Tgt) (e : Expr) : Bool :=
  match g, e with
  | .one i, .Name x _ => tgB cl N sc i x
  | .many is, .Tuple es _ _ => ckGs cl N sc is es
  | _, _ => false
def biB (f : Bi) (x : Str) : Bool :=
  match f with
  | .len => decide (x = "len")
  | .abs => decide (x = "abs")
  | .int => decide (x = "int")
  | .str => decide (x = "str")
  | .bool => decide (x = "bool")
  | .list => decide (x = "list")
  | .tuple => decide (x = "tuple")
  | .sum => decide (x = "sum")
  | .max => decide (x = "max")
  | .min => decide (x = "min")
  | .max2 => decide (x = "max")
  | .min2 => decide (x = "min")
  | .sorted => decide (x = "sorted")
  | _ => false
def tyS : Ty → Option Str
  | .int => some "int"
  | .bool => some "bool"
  | .str => some "str"
  | .list => some "list"
  | .tuple => some "tuple"
  | .dict => some "dict"
  | .cls _ => none
def tyB (L : Lk) (sc : Scope) (y : Ty) (e : Expr) : Bool :=
  match e with
  | .Name z _ => decide (tyS y = some z) && freeB L sc z
  | _ => false
def tyBs (L : Lk) (sc : Scope) : List Ty → List Expr → Bool
  | [], [] => true
  | y :: ys, e :: es => tyB L sc y e && tyBs L sc ys es
  | _, _ => false
def tyA (L : Lk) (sc : Scope) (ys : List Ty) (e : Expr) : Bool :=
  match e with
  | .Tuple es _ _ => !ys.isEmpty && decide (ys.length ≤ 100) && tyBs L sc ys es
  | e => (match ys with | [y] => tyB L sc y e | _ => false)
def mutB (f : Mt) (x : Str) : Bool :=
  match f with
  | .append => decide (x = "append")
  | .extend => decide (x = "extend")
  | .insert => decide (x = "insert")
  | _ => false
def argsN : List Expr → Bool
  | [] => false
  | es => decide (es.length < 30)
def kCst (t : T) (es : List Expr) : Bool := match es with | [.Constant c _ _] => cstB t c | _ => false
def kGlo (L : Lk) (sc : Scope) (t : T) (es : List Expr) : Bool := match es with | [.Name x _] => glB sc x && (match L.cst.lookup x with | some u => T.same u t | none => false) | _ => false
def kVar (N : List Str) (sc : Scope) (i : Nat) (es : List Expr) : Bool := match es with | [.Name x _] => varB N sc i x | _ => false
def kBin (o : Bop) (a b : Expr → Bool) (es : List Expr) : Bool := match es with | [.BinOp ea o' eb _] => decide (o' = opOf o) && a ea && b eb | _ => false
def kNeg (a : Expr → Bool) (es : List Expr) : Bool := match es with | [.UnaryOp .USub ea _] => a ea | _ => false
def kCmp (o : Cop) (a b : Expr → Bool) (es : List Expr) : Bool := match es with | [.Compare ea [o'] [eb] _] => decide (o' = copOf o) && notSet eb && a ea && b eb | _ => false
def kChain (o p : Cop) (a b c : Expr → Bool) (es : List Expr) : Bool := match es with
  | [.Compare ea [o', p'] [eb, ec] _] => decide (o' = copOf o) && decide (p' = copOf p) && notSet ec && a ea && b eb && c ec
  | _ => false
def kBool (o op : BoolOp) (a : Expr → Bool) (b : List Expr → Bool) (es : List Expr) : Bool := match es with
  | [] => false
  | [.BoolOp o' (ea :: eb :: es') _] => decide (o' = o) && a ea && b (eb :: es')
  | [_] => false
  | ea :: eb :: es' => decide (op = o) && a ea && b (eb :: es')
def kNot (a : Expr → Bool) (es : List Expr) : Bool := match es with | [.UnaryOp .Not ea _] => a ea | _ => false
def kIte (c a b : Expr → Bool) (es : List Expr) : Bool := match es with | [.IfExp ec ea eb _] => c ec && a ea && b eb | _ => false
def kList (as : List Expr → Bool) (es : List Expr) : Bool := match es with | [.List ee _] => as ee | _ => false
def kTup (as : List Expr → Bool) (es : List Expr) : Bool := match es with | [.Tuple ee _ _] => as ee | _ => false
def kIdx (a k : Expr → Bool) (es : List Expr) : Bool := match es with | [.Subscript ea ek _] => notSlice ek && a ea && k ek | _ => false
def kOpt (n : Bool) (a : Expr → Bool) (e : Option Expr) : Bool := match e with | none => n | some e => a e
def kSlice (nl nh : Bool) (a lo hi : Expr → Bool) (es : List Expr) : Bool := match es with
  | [.Subscript ea (.Slice el eh none _) _] => a ea && kOpt nl lo el && kOpt nh hi eh
  | _ => false
def kIfs (t : Bool) (c : Expr → Bool) (ifs : List Expr) : Bool := match ifs with | [] => t | [i] => c i | _ => false
def kComp (L : Lk) (N : List Str) (sc : Scope) (own : List Nat) (g : Tgt) (it : Expr → Bool) (t : Bool) (c e : Scope → Expr → Bool) (es : List Expr) : Bool := match es with
  | [.ListComp elt [⟨tg, iter, ifs, as⟩] scope _] => !L.hot && decide (as = 0) && blkB N sc scope own && (g.slots.all fun i => own.contains i) && ckG (ownC scope) N (relS scope sc) g tg && notSet iter && it iter &&
      kIfs t (c (relS scope sc)) ifs && e (relS scope sc) elt
  | _ => false
def kCompX (L : Lk) (N : List Str) (sc : Scope) (own : List Nat) (g : Tgt) (it : Expr → Bool) (t : Bool) (c e : Scope → Expr → Bool) (es : List Expr) : Bool := L.top && kComp L N sc own g it t c e es
def kComp2 (L : Lk) (N : List Str) (sc : Scope) (own : List Nat) (g : Tgt) (it : Expr → Bool) (t : Bool) (c : Scope → Expr → Bool) (own2 : List Nat) (g2 : Tgt) (it2 : Scope → Expr → Bool) (t2 : Bool) (c2 e : Scope → Expr → Bool) (es : List Expr) : Bool := match es with
  | [.ListComp elt [⟨tg, iter, ifs, as⟩, ⟨tg2, iter2, ifs2, as2⟩] scope _] => !L.hot && decide (as = 0) && decide (as2 = 0) && blkB N sc scope own && (own2.all fun i => own.contains i) && (g.slots.all fun i => own.contains i) && (g2.slots.all fun i => own2.contains i) &&
      ckG (ownC scope) N (relS scope sc) g tg && notSet iter && it iter && kIfs t (c (relS scope sc)) ifs &&
      ckG (ownC scope) N (relS scope sc) g2 tg2 && notSet iter2 && it2 (relS scope sc) iter2 && kIfs t2 (c2 (relS scope sc)) ifs2 && e (relS scope sc) elt
  | _ => false
def kCallF (L : Lk) (sc : Scope) (f : Nat) (ds : List T) (as : List Expr → Bool) (es : List Expr) : Bool := match es with
  | [.Call (.Name x _) ea [] _] => !L.hot && glB sc x && (match L.fns.lookup x with | some (g, df) => decide (g = f) && decide (ds.length ≤ df.length) && T.sames (df.drop (df.length - ds.length)) ds | none => false) && as ea
  | _ => false
def quietB : Bi → Bool
  | .sum => false
  | .max => false
  | .min => false
  | .max2 => false
  | .min2 => false
  | _ => true
def kCallB (L : Lk) (sc : Scope) (f : Bi) (as : List Expr → Bool) (es : List Expr) : Bool := match es with
  | [.Call (.Name x _) (ea :: er) [] _] => (!L.hot || quietB f) && freeB L sc x && biB f x && as (ea :: er)
  | _ => false
def tyX (L : Lk) (sc : Scope) (ys : List Ty) (eb : Expr) : Bool := match ys, eb with
  | [.cls d], .Name z _ => glB sc z && L.hot && decide (L.isx.lookup z = some d)
  | _, _ => false
def kIsi (L : Lk) (sc : Scope) (ys : List Ty) (a : Expr → Bool) (es : List Expr) : Bool := match es with
  | [.Call (.Name x _) [ea, eb] [] _] => decide (x = "isinstance") && freeB L sc x && notStar ea && a ea && (tyA L sc ys eb || tyX L sc ys eb)
  | _ => false
def kMut (f : Mt) (o : Expr → Bool) (as : List Expr → Bool) (es : List Expr) : Bool := match es with
  | [.Call (.Attribute eo name apos) (ea :: er) [] cpos] => mutB f name && plainBase eo && decide (apos.endLine = cpos.line) && decide ((ea :: er).length < 30) && o eo && as (ea :: er)
  | _ => false
def isRg : It → Bool
  | .rng _ => true
  | .rng2 _ _ => true
  | .rev _ => true
  | _ => false
def kListI (L : Lk) (sc : Scope) (r : Bool) (it : Expr → Bool) (es : List Expr) : Bool := match es with
  | [.Call (.Name x _) [iter] [] _] => !L.hot && r && decide (x = "list") && freeB L sc x && it iter
  | _ => false
def kMeth (f : Mt) (o : Expr → Bool) (as : List Expr → Bool) (es : List Expr) : Bool := match es with
  | [.Call (.Attribute eo name apos) [ea] [] cpos] => decide (f = .join) && decide (name = "join") && plainBase eo && decide (apos.endLine = cpos.line) && o eo && as [ea]
  | _ => false
def kCons (e : Expr → Bool) (r : List Expr → Bool) (es : List Expr) : Bool := match es with | ea :: er => notStar ea && e ea && r er | [] => false
def kRng (L : Lk) (sc : Scope) (a : Expr → Bool) (iter : Expr) : Bool := match iter with | .Call (.Name x _) [ea] [] _ => decide (x = "range") && freeB L sc x && notStar ea && a ea | _ => false
def kRng2 (L : Lk) (sc : Scope) (a b : Expr → Bool) (iter : Expr) : Bool := match iter with | .Call (.Name x _) [ea, eb] [] _ => decide (x = "range") && freeB L sc x && notStar ea && notStar eb && a ea && b eb | _ => false
def kRng3 (L : Lk) (sc : Scope) (a b c : Expr → Bool) (iter : Expr) : Bool := match iter with
  | .Call (.Name x _) [ea, eb, ec] [] _ => decide (x = "range") && freeB L sc x && notStar ea && notStar eb && notStar ec && a ea && b eb && c ec
  | _ => false
def kRev (L : Lk) (sc : Scope) (a : Expr → Bool) (iter : Expr) : Bool := match iter with | .Call (.Name x _) [ea] [] _ => decide (x = "reversed") && freeB L sc x && notStar ea && a ea | _ => false
mutual
def ck (L : Lk) (N : List Str) : E → Scope → BoolOp → List Expr → Bool
  | .cst t, _, _, es => kCst t es
  | .glo _ t, sc, _, es => kGlo L sc t es
  | .var i, sc, _, es => kVar N sc i es
  | .bin o a b, sc, _, es => kBin o (fun e => ck L N a sc .And [e]) (fun e => ck L N b sc .And [e]) es
  | .neg a, sc, _, es => kNeg (fun e => ck L N a sc .And [e]) es
  | .cmp o a b, sc, _, es => kCmp o (fun e => ck L N a sc .And [e]) (fun e => ck L N b sc .And [e]) es
  | .chain o p a b c, sc, _, es => kChain o p (fun e => ck L N a sc .And [e]) (fun e => ck L N b sc .And [e]) (fun e => ck L N c sc .And [e]) es
  | .and a b, sc, op, es => kBool .And op (fun e => ck L N a sc .And [e]) (fun es => ck L N b sc .And es) es
  | .or a b, sc, op, es => kBool .Or op (fun e => ck L N a sc .And [e]) (fun es => ck L N b sc .Or es) es
  | .not a, sc, _, es => kNot (fun e => ck L N a sc .And [e]) es
  | .ite c a b, sc, _, es => kIte (fun e => ck L N c sc .And [e]) (fun e => ck L N a sc .And [e]) (fun e => ck L N b sc .And [e]) es
  | .list as, sc, _, es => kList (fun ee => ckA L N as sc ee) es
  | .tup as, sc, _, es => kTup (fun ee => ckA L N as sc ee) es
  | .idx a k, sc, _, es => kIdx (fun e => ck L N a sc .And [e]) (fun e => ck L N k sc .And [e]) es
  | .slice a lo hi, sc, _, es => kSlice (isNonC lo) (isNonC hi) (fun e => ck L N a sc .And [e]) (fun e => ck L N lo sc .And [e]) (fun e => ck L N hi sc .And [e]) es
  | .comp own g it c e, sc, _, es => kComp L N sc own g (fun e => ckI L N it sc e) (isTrueC c) (fun sc e => ck L.low N c sc .And [e]) (fun sc x => ck L.low N e sc .And [x]) es
  | .compX own g it c e, sc, _, es => kCompX L N sc own g (fun e => ckI L N it sc e) (isTrueC c) (fun sc e => ck L.low N c sc .And [e]) (fun sc x => ck L.low N e sc .And [x]) es
  | .comp2 own g it c own2 g2 it2 c2 e, sc, _, es => kComp2 L N sc own g (fun e => ckI L N it sc e) (isTrueC c) (fun sc e => ck L.low N c sc .And [e]) own2 g2 (fun sc e => ckI L.low N it2 sc e) (isTrueC c2) (fun sc e => ck L.low N c2 sc .And [e]) (fun sc x => ck L.low N e sc .And [x]) es
  | .callF f as ds, sc, _, es => kCallF L sc f ds (fun ee => ckA L N as sc ee) es
  | .callB f as, sc, _, es => kCallB L sc f (fun ee => ckA L N as sc ee) es
  | .isinst a ys, sc, _, es => kIsi L sc ys (fun e => ck L N a sc .And [e]) es
  | .mut f o as, sc, _, es => kMut f (fun e => ck L N o sc .And [e]) (fun ee => ckA L N as sc ee) es
  | .dct .., _, _, _ => false
  | .scomp .., _, _, _ => false
  | .dcomp .., _, _, _ => false
  | .listI it, sc, _, es => kListI L sc (isRg it) (fun e => ckI L N it sc e) es
  | .meth f o as, sc, _, es => kMeth f (fun e => ck L N o sc .And [e]) (fun ee => ckA L N as sc ee) es
  | .callM .., _, _, _ => false
  | .new .., _, _, _ => false
  | .attr .., _, _, _ => false
def ckA (L : Lk) (N : List Str) : EL → Scope → List Expr → Bool
  | .nil, _, es => es.isEmpty
  | .cons e r, sc, es => kCons (fun x => ck L N e sc .And [x]) (fun ee => ckA L N r sc ee) es
def ckI (L : Lk) (N : List Str) : It → Scope → Expr → Bool
  | .of e, sc, iter => ck L N e sc .And [iter]
  | .rng a, sc, iter => kRng L sc (fun e => ck L N a sc .And [e]) iter
  | .rng2 a b, sc, iter => kRng2 L sc (fun e => ck L N a sc .And [e]) (fun e => ck L N b sc .And [e]) iter
  | .rng3 a b c, sc, iter => kRng3 L sc (fun e => ck L N a sc .And [e]) (fun e => ck L N b sc .And [e]) (fun e => ck L N c sc .And [e]) iter
  | .rev e, sc, iter => kRev L sc (fun x => ck L N e sc .And [x]) iter
  | .zip .., _, _ => false
end
end MP
end

section
set_option Elab.async false
set_option linter.all false
set_option maxRecDepth 100000
/-! MP13: what the check of expressions gives. -/
namespace MP
open PySem PySem.Spec PyProof.Rows L2

theorem band {a b : Bool} (h : (a && b) = true) : a = true ∧ b = true := Bool.and_eq_true_iff.mp h
/-! ### what stands in a text -/
theorem star_of {e : Expr} (es : List Expr) (env : PySem.Env) (h : notStar e = true) : starEach (e :: es) env = (false, PySem.eval e env) :: starEach es env := by
  cases e <;> first | rfl | cases h
theorem stars_of : ∀ {es : List Expr} (env : PySem.Env), es.all notStar = true → ∀ x ∈ starEach es env, x.1 = false
  | [], _, _ => fun x hx => by cases hx
  | e :: es, env, h => by
    rw [List.all_cons] at h
    obtain ⟨h1, h2⟩ := band h
    rw [star_of es env h1]
    intro x hx
    rcases List.mem_cons.mp hx with rfl | hx
    · rfl
    · exact stars_of env h2 x hx
theorem plain_of {es : List Expr} {env : PySem.Env} (pos : Pos) (h : es.all notStar = true) : (backTo pos (starEach es env)).any (·.1) = false := by
  unfold backTo
  rw [List.any_map, List.any_eq_false]
  intro x hx
  have := stars_of env h x hx
  simp [this]
theorem few_of {es : List Expr} {env : PySem.Env} (pos : Pos) (h : es.all notStar = true) (hl : es.length < 30) :
    ((backTo pos (starEach es env)).all (fun x => !x.1) && (backToKw pos (keywordEach [] env)).all (fun x => x.1.isSome) && decide (es.length + ([] : List Keyword).length + (if ([] : List Keyword).isEmpty then 0 else 1) < 30)) = true := by
  have e : (backTo pos (starEach es env)).all (fun x => !x.1) = true := by
    unfold backTo
    rw [List.all_map, List.all_eq_true]
    intro x hx
    have := stars_of env h x hx
    simp [this]
  rw [e]
  have : keywordEach [] env = [] := rfl
  rw [this]
  simp [backToKw, hl]
theorem mark_of {op : CmpOp} {e : Expr} (h : notSet e = true) : behindInMarks op e = false := by
  cases e <;> first | rfl | cases h
theorem fold_of {e : Expr} {env : PySem.Env} (h : notSet e = true) : ∀ x, foldedSetIterable e env x = pure x := by
  intro x
  cases e <;> first | rfl | cases h
theorem ix_of {e : Expr} (h : notSlice e = true) : PlainIx e := by
  intro o i
  cases e <;> first | rfl | cases h
theorem base_of {e : Expr} {attr : Str} {env : PySem.Env} (h : plainBase e = true) : attributeBase e attr env (PySem.eval e env) = PySem.eval e env := by
  unfold plainBase at h
  split at h
  · cases h
  · rename_i hne
    cases e <;> first | rfl | skip
    rename_i f as ks p
    cases f <;> first | rfl | skip
    rename_i id p'
    cases as with
    | nil => (cases ks with
      | nil => exact (hne _ _ _ rfl).elim
      | cons _ _ => rfl)
    | cons _ _ => rfl
/-- whose truth is its value's -/
def valT : Expr → Bool
  | .UnaryOp .Not _ _ => false
  | .BoolOp .. => false
  | .IfExp .. => false
  | .Compare .. => false
  | _ => true
theorem plainT_of {X : Cx} {e : Expr} (h : valT e = true) : PlainT X e := by
  intro whole
  cases e <;> first | rfl | cases h | skip
  rename_i op _ _
  cases op <;> first | rfl | cases h

/-! ### the surroundings of a text -/
structure Cok (L : Lk) (D : Sd) (N : List Str) (sc : Scope) (hx : Option (Addr × Nat × List T)) (X : Cx) : Prop where
  nm : X.N = N
  nd : N.Nodup
  sc : X.env.scope = sc
  calm : L.hot = false → X.calm = true ∧ hx = none
  un : X.A.units + 65 < cLine
  free : ∀ x ∈ L.free, X.mg x = none
  cst : ∀ x t, L.cst.lookup x = some t → ∃ v u, X.mg x = some u ∧ RelV v u ∧ ∀ K w, Rep K w t v
  fns : ∀ x f df, L.fns.lookup x = some (f, df) → ∃ k fa fd ps, FnOk X.prog X.w X.K X.mg X.base (L2N.CX X.prog X.w) k fa fd ps (spT (X.kx none) D f) ∧ Room k X.A ∧ X.mg x = some (.ref fa) ∧ PySem.W.keepIn X.K (.ref fa) = true ∧
    ∀ n, n ≤ df.length → ∃ dvs dvl, Binds X.K fd ps dvl ∧ Vals dvs dvl ∧ ∀ w, Reps (X.kx none) w (df.drop (df.length - n)) dvs
  cls : ∀ x c, L.cls.lookup x = some c → ∃ C B newId initId bmB, D.cA c = C ∧ ExcBaseFacts B newId initId bmB ∧ PySem.W.excIn X.K C bmB newId = true ∧ X.mg x = some (.ref C) ∧ PySem.W.keepIn X.K (.ref C) = true ∧ Raises X (.ref C)
  isi : ∀ a c xs, hx = some (a, c, xs) → CallR X (.builtin "isinstance") (rIsE X.K (D.cA c) a)
  tp : L.top = true → X.stack = X.env :: X.outer ∧ X.env.frame = some X.env.locals
  isx : L.hot = true → ∀ z d, L.isx.lookup z = some d → ∃ (cv : V) (cw : Value), (X.mg z = some cw ∨ (X.mg z = none ∧ bootBuiltins z = some cw)) ∧ RelV cv cw ∧ (∀ u, RelV cv u → u = cw) ∧ ∀ c b, D.C.sub c d = some b → PySem.W.kitOne X.K (.ref (D.cA c)) cw = some b
section
variable {L : Lk} {D : Sd} {N : List Str} {sc scope : Scope} {hx : Option (Addr × Nat × List T)} {X : Cx} {W : WX} {pos p : Pos}
theorem Cok.blk (c : Cok L D N sc hx X) (hh : L.hot = false) (s : Shared) (H : Hp) (C : Addr) (cl : List (Str × Addr)) (fp : List Addr) : Cok L.low D N (relS scope sc) hx (X.blk s H scope (compEnvC scope cl C X.env) fp) := by
  refine ⟨c.nm, c.nd, ?_, c.calm, c.un, c.free, c.cst, c.fns, c.cls, fun a d xs e => ?_, (fun e => by cases e), c.isx⟩
  · rw [← c.sc]; rfl
  · rw [(c.calm hh).2] at e; cases e
theorem Cok.tr' (c : Cok L D N sc hx X) (pn : List (Addr × Obj)) (xe : Value → Shared → Prop) (hn : hx = none) : Cok L D N sc hx (X.tr pn xe) :=
  ⟨c.nm, c.nd, c.sc, c.calm, c.un, c.free, c.cst, c.fns, c.cls, (fun _ _ _ e => by rw [hn] at e; cases e), c.tp, c.isx⟩
theorem takes_W0 : L2N.Takes X W0 := fun u s' h => by
  obtain ⟨_, _, _, _, _, _, _, _, _, _, _, _, _, _, _, _, h⟩ := h
  exact h.elim
theorem Cok.vis (c : Cok L D N sc hx X) {i : Nat} {x : Str} (h : varB N sc i x = true) : PE X (.Name x pos) (tVar i) := by
  unfold varB at h
  obtain ⟨h, h4⟩ := band h
  obtain ⟨h, h3⟩ := band h
  obtain ⟨h1, h2⟩ := band h
  refine pe_var (by rw [c.nm]; exact of_decide_eq_true h1) ?_ (by simpa using h3) (by simpa using h4)
  unfold visB at h2
  unfold Vis
  rw [c.sc]
  split at h2
  · rename_i e; exact .inl e
  · rename_i e; exact .inr (.inl e)
  · rename_i e; exact .inr (.inr e)
  · cases h2
theorem glB_of (c : Cok L D N sc hx X) {x : Str} (h : glB sc x = true) : Gl X x ∧ (x == ("__debug__" : Str)) = false ∧ x ≠ "__name__" := by
  unfold glB at h
  obtain ⟨h, h3⟩ := band h
  obtain ⟨h1, h2⟩ := band h
  refine ⟨?_, by simpa using h2, of_decide_eq_true h3⟩
  show X.env.scope.names.lookup x = _
  rw [c.sc]; exact of_decide_eq_true h1
theorem freeB_of (c : Cok L D N sc hx X) {x : Str} (h : freeB L sc x = true) : Gl X x ∧ (x == ("__debug__" : Str)) = false ∧ x ≠ "__name__" ∧ X.mg x = none := by
  unfold freeB at h
  obtain ⟨h1, h2⟩ := band h
  obtain ⟨a, b, d⟩ := glB_of c h1
  exact ⟨a, b, d, c.free x (List.contains_iff_mem.mp h2)⟩
theorem lt_of_get? {α : Type} {l : List α} {i : Nat} {a : α} (e : l[i]? = some a) : i < l.length := by
  by_cases h : i < l.length
  · exact h
  · rw [List.getElem?_eq_none (by omega)] at e; cases e
theorem tg_of {cl : Str → Bool} (c : Cok L D N sc hx X) (hf : ∀ x, cl x = true → X.fn x = true) {i : Nat} {x : Str} (h : tgB cl N sc i x = true) : PG X (.Name x pos) (gName i) ∧ i < X.N.length := by
  unfold tgB at h
  obtain ⟨h1, h2⟩ := band h
  have h1 := of_decide_eq_true h1
  have hN : X.N[i]? = some x := by rw [c.nm]; exact h1
  rw [Bool.or_eq_true] at h2
  rcases h2 with h2 | h2
  · have h2 : X.env.scope.names.lookup x = some .local := by rw [c.sc]; exact of_decide_eq_true h2
    exact ⟨pg_name (by rw [c.nm]; exact c.nd) hN (.inl h2) (.inr h2), lt_of_get? hN⟩
  · obtain ⟨h2, h3⟩ := band h2
    have h3 : X.env.scope.names.lookup x = some .cell := by rw [c.sc]; exact of_decide_eq_true h3
    exact ⟨pg_name (by rw [c.nm]; exact c.nd) hN (.inr h3) (.inl (hf x h2)), lt_of_get? hN⟩
theorem tgs_of {cl : Str → Bool} (c : Cok L D N sc hx X) (hf : ∀ x, cl x = true → X.fn x = true) : ∀ {is : List Nat} {es : List Expr}, ckGs cl N sc is es = true → PGs X es (gNames is) ∧ (assignEach es X.env).length = is.length ∧ (assignEach es X.env).findIdx? (·.1) = none ∧ ∀ i ∈ is, i < X.N.length
  | [], [], _ => ⟨pgs_nil, rfl, rfl, fun i hi => by cases hi⟩
  | [], _ :: _, h => by cases h
  | _ :: _, [], h => by cases h
  | i :: is, e :: es, h => by
    unfold ckGs at h
    obtain ⟨h1, h2⟩ := band h
    split at h1
    · rename_i x p
      obtain ⟨g, hi⟩ := tg_of (pos := p) c hf h1
      obtain ⟨a1, a2, a3, a4⟩ := tgs_of c hf h2
      refine ⟨pgs_cons g a1, ?_, ?_, ?_⟩
      · show (assignEach es X.env).length + 1 = _
        rw [a2]; rfl
      · show List.findIdx? _ ((false, _) :: assignEach es X.env) = none
        rw [List.findIdx?_cons]
        simp [a3]
      · intro j hj
        rcases List.mem_cons.mp hj with rfl | hj
        · exact hi
        · exact a4 j hj
    · cases h1
theorem G_of {cl : Str → Bool} (hc : X.calm = true) (c : Cok L D N sc hx X) (hf : ∀ x, cl x = true → X.fn x = true) {g : Tgt} {e : Expr} (h : ckG cl N sc g e = true) : PG X e (tG (X.kx hx) g) := by
  unfold ckG at h
  split at h
  · obtain ⟨g, hi⟩ := tg_of c hf h
    exact G_one g hi
  · obtain ⟨a1, a2, a3, a4⟩ := tgs_of c hf h
    exact G_many hc a1 a2 a3 a4
  · cases h
def ownS (N : List Str) (own : List Nat) : List (Str × Nat) := own.map fun i => ((N[i]?).getD default, i)
theorem ownS_snd (N : List Str) (own : List Nat) : (ownS N own).map (·.2) = own := by
  unfold ownS
  rw [List.map_map]
  exact List.map_id' own
theorem blk_of (c : Cok L D N sc hx X) {own : List Nat} (h : blkB N sc scope own = true) : BlkOk X.N X.env.scope scope (ownS N own) := by
  unfold blkB at h
  obtain ⟨h, h5⟩ := band h
  obtain ⟨h, h4⟩ := band h
  obtain ⟨h, h3⟩ := band h
  obtain ⟨h1, h2⟩ := band h
  rw [List.all_eq_true] at h2 h3 h4 h5
  rw [c.nm, c.sc]
  refine ⟨of_decide_eq_true h1, fun y hy => of_decide_eq_true (h2 y hy), fun q hq => ?_, fun y hy e => ?_, fun y hy e => ?_⟩
  · unfold ownS at hq
    obtain ⟨i, hi, rfl⟩ := List.mem_map.mp hq
    have hl := of_decide_eq_true (h3 i hi)
    simp [List.getElem?_eq_getElem hl]
  · have := h4 y hy
    simp only [e, decide_true, Bool.not_true, Bool.false_or, Bool.or_eq_true, decide_eq_true_eq] at this
    exact this
  · have := h5 y hy
    have e' : (decide (y.2 = .local) || decide (y.2 = .cell)) = true := by
      rcases e with e | e <;> simp [e]
    rw [e'] at this
    simp only [Bool.not_true, Bool.false_or, Bool.or_eq_true, List.any_eq_true, Bool.not_eq_true', decide_eq_true_eq] at this
    rcases this with ⟨i, hi, e1⟩ | h
    · refine .inl (List.mem_map.mpr ⟨(y.1, i), ?_, rfl⟩)
      unfold ownS
      refine List.mem_map.mpr ⟨i, hi, ?_⟩
      rw [e1]; rfl
    · refine .inr fun hm => ?_
      rw [List.any_eq_false] at h
      exact h _ hm (by simp)
/-! ### the parts -/
theorem call_bool_rep : CallR X (.type "bool") (rBi (X.kx hx) .bool) := by
  intro pins s sg H xs us Q I rx ⟨w, m, ts, r, S, rv, e, q⟩
  match ts, e, rv with
  | [], e, _ => simp [biT] at e
  | _ :: _ :: _, e, _ => simp [biT] at e
  | [t], e, rv =>
    obtain ⟨v, rfl, ra⟩ := one_arg rv rfl
    have lst : ∀ xs : List T, vwL m t = some xs → T.bl (!xs.isEmpty) = r → wpAny (model X.prog X.w) X.A (call (.type "bool") us) (EP X pins sg Q) X.xe s := by
      intro xs h1 h2
      obtain ⟨p, vs, rfl, hp, rp⟩ := vwL_rep S ra h1
      refine call_boolL pins s sg H _ us Q I rx ⟨p, vs, rfl, .of hp, ?_⟩
      have e : (!vs.isEmpty) = (!xs.isEmpty) := by cases rp <;> rfl
      rw [e]
      subst h2
      exact q.use S (.bl _)
    cases ra with
    | int i =>
      simp only [biT, Option.some.injEq] at e; subst e
      exact call_bool1 pins s sg H _ us Q I rx (.inl ⟨i, rfl, q.use S (.bl _)⟩)
    | bl b =>
      simp only [biT, Option.some.injEq] at e; subst e
      exact call_bool1 pins s sg H _ us Q I rx (.inr ⟨b, rfl, q.use S (.bl _)⟩)
    | @lst p vs xs hp rp => exact lst xs rfl (by simpa [biT, vwL] using e)
    | @obj n p hn =>
      cases hm : m[n]? with
      | none => simp [biT, vwL, hm] at e
      | some c =>
        cases c with
        | lst xs => exact lst xs (by simp [vwL, hm]) (by simpa [biT, vwL, hm] using e)
        | _ => simp [biT, vwL, hm] at e
    | _ => simp [biT, vwL] at e
theorem ty_of (c : Cok L D N sc hx X) {y : Ty} {e : Expr} (h : tyB L sc y e = true) : (∀ d, y ≠ .cls d) ∧ PE X e (tC (.ty y.nm)) ∧ notStar e = true := by
  unfold tyB at h
  split at h
  · rename_i z p
    obtain ⟨h1, h2⟩ := band h
    obtain ⟨a1, a2, a3, a4⟩ := freeB_of c h2
    have h1 := of_decide_eq_true h1
    refine ⟨fun d e => by subst e; simp [tyS] at h1, ?_, rfl⟩
    have hv : bootBuiltins z = some (.type y.nm) := by
      cases y <;> simp only [tyS, Option.some.injEq, reduceCtorEq] at h1 <;> subst h1 <;> rfl
    exact pe_bltn a1 a4 hv rfl a3 a2
  · cases h
theorem tys_of (c : Cok L D N sc hx X) : ∀ {ys : List Ty} {es : List Expr}, tyBs L sc ys es = true → JTy X ys es
  | [], [], _ => .nil
  | [], _ :: _, h => by cases h
  | _ :: _, [], h => by cases h
  | y :: ys, e :: es, h => by
    unfold tyBs at h
    obtain ⟨h1, h2⟩ := band h
    obtain ⟨a, b, d⟩ := ty_of c h1
    exact .cons a b (star_of es X.env d) (tys_of c h2)
/-- how an expression that may be a comprehension stands in an assignment -/
def CompG (X : Cx) (hx : Option (Addr × Nat × List T)) (D : Sd) (W : WX) (m : E) (ee : Expr) : Prop :=
  notLc ee = true ∨
  ((∃ elt gs scope q, ee = .ListComp elt gs scope q) ∧ (∀ C env st, evalNew C m env st = .stuck) ∧ ∀ (i : Nat) (y : Str) (py spos : Pos), X.N[i]? = some y → X.env.scope.names.lookup y = some .local → swapsWith ee (some (.Name y py)) spos.line X.env = pure true → PS X (.Assign [.Name y py] ee spos) (tAsg (tE (X.kx hx) D W m) (gName i))) ∨
  (∃ own g it c e elt tg iter ifs scope oS pos, m = .comp own g it c e ∧ ee = .ListComp elt [⟨tg, iter, ifs, 0⟩] scope pos ∧ JI X hx D W tg it iter ∧ BlkOk X.N X.env.scope scope oS ∧ oS.map (·.2) = own ∧ (∀ i ∈ g.slots, i ∈ own) ∧
    (∀ (s : Shared) (H : Hp) (C : Addr) (cl : List (Str × Addr)) (fp : List Addr), PG (X.blk s H scope (compEnvC scope cl C X.env) fp) tg (tG (X.kx hx) g)) ∧ (∀ (s : Shared) (H : Hp) (C : Addr) (cl : List (Str × Addr)) (fp : List Addr), JTs (X.blk s H scope (compEnvC scope cl C X.env) fp) hx D W0 c ifs) ∧
    (∀ (s : Shared) (H : Hp) (C : Addr) (cl : List (Str × Addr)) (fp : List Addr), JE (X.blk s H scope (compEnvC scope cl C X.env) fp) hx D W0 e elt) ∧ (∀ x, foldedSetIterable iter X.env x = pure x)) ∨
  (∃ own g it c own2 g2 it2 c2 e elt tg iter ifs tg1 iter1 ifs1 scope oS pos, m = .comp2 own g it c own2 g2 it2 c2 e ∧ ee = .ListComp elt [⟨tg, iter, ifs, 0⟩, ⟨tg1, iter1, ifs1, 0⟩] scope pos ∧ JI X hx D W tg it iter ∧ BlkOk X.N X.env.scope scope oS ∧ oS.map (·.2) = own ∧
    (∀ i ∈ own2, i ∈ own) ∧ (∀ i ∈ g.slots, i ∈ own) ∧ (∀ i ∈ g2.slots, i ∈ own2) ∧
    (∀ (s : Shared) (H : Hp) (C : Addr) (cl : List (Str × Addr)) (fp : List Addr), PG (X.blk s H scope (compEnvC scope cl C X.env) fp) tg (tG (X.kx hx) g)) ∧ (∀ (s : Shared) (H : Hp) (C : Addr) (cl : List (Str × Addr)) (fp : List Addr), JTs (X.blk s H scope (compEnvC scope cl C X.env) fp) hx D W0 c ifs) ∧
    (∀ (s : Shared) (H : Hp) (C : Addr) (cl : List (Str × Addr)) (fp : List Addr), JI (X.blk s H scope (compEnvC scope cl C X.env) fp) hx D W0 tg1 it2 iter1) ∧
    (∀ (s : Shared) (H : Hp) (C : Addr) (cl : List (Str × Addr)) (fp : List Addr), PG (X.blk s H scope (compEnvC scope cl C X.env) fp) tg1 (tG (X.kx hx) g2)) ∧ (∀ (s : Shared) (H : Hp) (C : Addr) (cl : List (Str × Addr)) (fp : List Addr), JTs (X.blk s H scope (compEnvC scope cl C X.env) fp) hx D W0 c2 ifs1) ∧
    (∀ (s : Shared) (H : Hp) (C : Addr) (cl : List (Str × Addr)) (fp : List Addr), JE (X.blk s H scope (compEnvC scope cl C X.env) fp) hx D W0 e elt) ∧ (∀ x, foldedSetIterable iter X.env x = pure x) ∧ (∀ env x, foldedSetIterable iter1 env x = pure x))
structure Good (X : Cx) (hx : Option (Addr × Nat × List T)) (D : Sd) (W : WX) (m : E) (op : BoolOp) (es : List Expr) : Prop where
  e : ∀ e, es = [e] → JE X hx D W m e
  t : ∀ e, es = [e] → JT X hx D W m e
  n : ∀ e, es = [e] → JN X hx D W m e
  c : ∀ e, es = [e] → CompG X hx D W m e
  b : ∀ pos, JE X hx D W m (.BoolOp op es pos)
  w : ∀ pos, JW X hx D W m (.BoolOp op es pos)
theorem Good.one {m : E} {op : BoolOp} {e : Expr} (he : JE X hx D W m e) (ht : JT X hx D W m e) (hn : JN X hx D W m e) (hc : CompG X hx D W m e) : Good X hx D W m op [e] := by
  refine ⟨fun _ h => ?_, fun _ h => ?_, fun _ h => ?_, fun _ h => ?_, fun pos => E_boolOne he, fun pos => ?_⟩
  · cases h; exact he
  · cases h; exact ht
  · cases h; exact hn
  · cases h; exact hc
  · cases op
    · exact W_and1 ht
    · exact W_or1 ht
theorem N_stuck {m : E} {e : Expr} (h : ∀ C env st, evalNew C m env st = .stuck) : JN X hx D W m e :=
  ⟨fun pins s sg H Q I ⟨w, st, env, S, R, q⟩ => by rw [h] at q; exact q.elim⟩
/-- by its value -/
theorem Good.ofE {m : E} {op : BoolOp} {e : Expr} (he : JE X hx D W m e) (hv : valT e = true) (hl : notLc e = true) (hn : ∀ C env st, evalNew C m env st = .stuck) : Good X hx D W m op [e] :=
  .one he (JT_of he (plainT_of hv)) (N_stuck hn) (.inl hl)
theorem Good.ofT {m : E} {op : BoolOp} {e : Expr} (he : JE X hx D W m e) (ht : JT X hx D W m e) (hl : notLc e = true) (hn : ∀ C env st, evalNew C m env st = .stuck) : Good X hx D W m op [e] :=
  .one he ht (N_stuck hn) (.inl hl)
theorem Good.ofN {m : E} {op : BoolOp} {e : Expr} (he : JE X hx D W m e) (hn : JN X hx D W m e) (hv : valT e = true) (hl : notLc e = true) : Good X hx D W m op [e] :=
  .one he (JT_of he (plainT_of hv)) hn (.inl hl)
theorem pt_ifExp {c a b : Expr} {tc : TT} {ta tb : TT} (hc : PT X c tc) (ha : PT X a ta) (hb : PT X b tb) : PT X (.IfExp c a b pos) (fun sg H Q => tc sg H fun r H1 => if r = true then ta sg H1 Q else tb sg H1 Q) := by
  refine ⟨fun pins s sg H Q I h => ?_⟩
  show wpAny _ _ (do if ← isTrue c X.env (PySem.eval c X.env) then isTrue a X.env (PySem.eval a X.env) else isTrue b X.env (PySem.eval b X.env)) _ _ _
  refine wpAny_bind (thn (hc.run pins s sg H _ I h) fun r s1 ⟨H1, I1, q1⟩ => ?_)
  cases r with
  | true => exact ha.run pins s1 sg H1 Q I1 q1
  | false => exact hb.run pins s1 sg H1 Q I1 q1
theorem E_iteT {c a b : E} {ec ea eb : Expr} (hc : JT X hx D W c ec) (ha : JT X hx D W a ea) (hb : JT X hx D W b eb) : JT X hx D W (.ite c a b) (.IfExp ec ea eb pos) := by
  refine PT.imp (pt_ifExp hc ha hb) fun sg H Q ⟨w, st, env, S, R, q⟩ => ?_
  have e : test D.C (.ite c a b) env st = ((test D.C c env st).bind fun r m => if r then test D.C a env m else test D.C b env m) := by
    show ((eval D.C c env st).bind _).bind _ = ((eval D.C c env st).bind _).bind _
    rw [Res.bind_assoc, Res.bind_assoc]
    congr 1; funext x m
    rw [Res.bind_assoc]
    congr 1; funext r m
    cases r <;> rfl
  rw [e] at q
  refine tT_one S R q fun r m' w' H' le S' q => ?_
  cases r with
  | true => simp only [if_true] at q ⊢; exact ⟨w', m', env, S', R.mono le, to_laterB q le⟩
  | false => simp only [Bool.false_eq_true, if_false] at q ⊢; exact ⟨w', m', env, S', R.mono le, to_laterB q le⟩
end
end MP
end

section
set_option Elab.async false
set_option Elab.async false
set_option linter.all false
set_option maxRecDepth 100000
set_option maxHeartbeats 0
/-! MP14: an expression that is checked is what the evaluator says. -/
namespace MP
open PySem PySem.Spec PyProof.Rows L2
section
variable {L : Lk} {D : Sd} {N : List Str} {hx : Option (Addr × Nat × List T)}
theorem JTs_of {X : Cx} {W : WX} {c : E} {ifs : List Expr} (h0 : ifs = [] → isTrueC c = true) (h1 : ∀ i, ifs = [i] → JT X hx D W c i) (h : ifs = [] ∨ ∃ i, ifs = [i]) : JTs X hx D W c ifs := by
  rcases h with rfl | ⟨i, rfl⟩
  · have h0 := h0 rfl
    unfold isTrueC at h0
    split at h0
    · exact .nil
    · cases h0
  · exact .one (h1 i rfl)
theorem all_in {is own : List Nat} (h : (is.all fun i => own.contains i) = true) : ∀ i ∈ is, i ∈ own := fun i hi => List.contains_iff_mem.mp (List.all_eq_true.mp h i hi)
theorem cst_of {X : Cx} {t : T} {c : Const} {k : Nat} {pos : Pos} (h : cstB t c = true) : ∃ v, PE X (.Constant c k pos) (tC v) ∧ ∀ K w, Rep K w t v := by
  unfold cstB at h
  split at h
  · exact ⟨_, pe_non, fun K w => .non⟩
  · rename_i b c
    have h : b = c := by simpa using h
    subst h
    exact ⟨_, pe_bl, fun K w => .bl _⟩
  · have h := of_decide_eq_true h
    subst h
    exact ⟨_, pe_int, fun K w => .int _⟩
  · have h := of_decide_eq_true h
    subst h
    exact ⟨_, pe_str, fun K w => .str _⟩
  · cases h
theorem call_of {X : Cx} {f : Bi} {x : Str} (hc : X.calm = true ∨ quietB f = true) (h : biB f x = true) : (∃ id, CallR X (.builtin id) (rBi (X.kx hx) f) ∧ bootBuiltins x = some (.builtin id)) ∨ (∃ id, CallR X (.type id) (rBi (X.kx hx) f) ∧ bootBuiltins x = some (.type id)) := by
  have hc' : quietB f = false → X.calm = true := fun e => by rw [e] at hc; simpa using hc
  clear hc
  unfold biB at h
  split at h <;> first
    | cases h
    | (have h := of_decide_eq_true h; subst h; first
      | exact .inl ⟨_, call_len_rep, rfl⟩
      | exact .inl ⟨_, call_abs_rep, rfl⟩
      | exact .inr ⟨_, call_int_rep, rfl⟩
      | exact .inr ⟨_, call_str_rep, rfl⟩
      | exact .inr ⟨_, call_bool_rep, rfl⟩
      | exact .inr ⟨_, call_list_rep, rfl⟩
      | exact .inr ⟨_, call_tuple_rep, rfl⟩
      | exact .inl ⟨_, call_sorted_rep, rfl⟩
      | exact .inl ⟨_, call_sum_rep (hc' rfl), rfl⟩
      | exact .inl ⟨_, call_max_rep (hc' rfl), rfl⟩
      | exact .inl ⟨_, call_min_rep (hc' rfl), rfl⟩
      | exact .inl ⟨_, call_max2_rep (hc' rfl), rfl⟩
      | exact .inl ⟨_, call_min2_rep (hc' rfl), rfl⟩)
theorem E_mutOf {X : Cx} {W : WX} {f : Mt} {o : E} {args : EL} {eo e : Expr} {es : List Expr} {name : Str} {apos cpos : Pos} (h : mutB f name = true) (ho : JE X hx D W o eo) (ha : JA X hx D W args (e :: es)) (hb : plainBase eo = true) (hl : apos.endLine = cpos.line) (hf : (e :: es).length < 30) (hs : (e :: es).all notStar = true) :
    JE X hx D W (.mut f o args) (.Call (.Attribute eo name apos) (e :: es) [] cpos) := by
  have hs' := hs
  rw [List.all_cons] at hs'
  obtain ⟨s1, s2⟩ := band hs'
  have hl' : (apos.endLine == cpos.line) = true := by simpa using hl
  unfold mutB at h
  split at h <;> first
    | cases h
    | (have h := of_decide_eq_true h; subst h; first
      | exact E_mut (PySem.F.slot_list_append) PySem.F.type_list_append mut_append (fun _ _ => rfl) ho ha (base_of hb) (few_of cpos hs hf) hl' (star_of es X.env s1) (plain_of cpos s2)
      | exact E_mut (PySem.F.slot_list_extend) PySem.F.type_list_extend mut_extend (fun _ _ => rfl) ho ha (base_of hb) (few_of cpos hs hf) hl' (star_of es X.env s1) (plain_of cpos s2)
      | exact E_mut (PySem.F.slot_list_insert) PySem.F.type_list_insert mut_insert (fun _ _ => rfl) ho ha (base_of hb) (few_of cpos hs hf) hl' (star_of es X.env s1) (plain_of cpos s2))

/-- an exception asked for its class -/
theorem isx_of {sc : Scope} {X : Cx} {W : WX} {a : E} {ys : List Ty} {ea eb : Expr} {x : Str} {p pos : Pos} (c : Cok L D N sc hx X) (h : tyX L sc ys eb = true) (hg : Gl X x) (hm : X.mg x = none) (hv : bootBuiltins x = some (.builtin "isinstance")) (ha : JE X hx D W a ea) (hn : x ≠ "__name__") (hdb : (x == ("__debug__" : Str)) = false) (hs : notStar ea = true) :
    JE X hx D W (.isinst a ys) (.Call (.Name x p) [ea, eb] [] pos) := by
  unfold tyX at h
  split at h
  · rename_i d z pz
    obtain ⟨h, h3⟩ := band h
    obtain ⟨h1, h2⟩ := band h
    obtain ⟨b1, b2, b3⟩ := glB_of c h1
    obtain ⟨cv, cw, hm', hr, hu, hk⟩ := c.isx h2 z d (of_decide_eq_true h3)
    have pz : PE X (.Name z pz) (tC cv) := by
      rcases hm' with hm' | ⟨hm', hb⟩
      · exact pe_glob b1 hm' hr b2
      · exact pe_bltn b1 hm' hb hr b3 b2
    refine ⟨fun pins s sg H Q I ⟨w, st, env, S, R, q⟩ => ?_⟩
    have q := (show ((eval D.C a env st).bind fun x m => Res.ofO ((isTys D.C.sub m x [.cls d]).map T.bl) m).to (okV (X.kx hx) w Q) (exV (X.kx hx) D W w sg) from q)
    match hx, c, ha, S, R, q with
    | none, c, ha, S, R, q =>
      refine (pe_callB (r := fun _ _ _ => False) (fun _ _ _ _ _ _ _ _ _ h => h.elim) hg hm hv (pa_cons ha (pa_cons pz pa_nil (star_of _ X.env rfl)) (star_of _ X.env hs)) hn hdb (star_of _ X.env hs) (plain_of pos rfl)).run pins s sg H Q I ?_
      refine tE_one S R q fun t m' w' H' v le S' r q => ?_
      obtain ⟨y, hy, q2⟩ := Res.to_ofO q
      obtain ⟨b, hb', rfl⟩ := Option.map_eq_some_iff.mp hy
      simp only [isTys] at hb'
      obtain ⟨b0, hb0, _⟩ := Option.bind_eq_some_iff.mp hb'
      cases r with
      | exc e => cases e
      | _ => simp [isTy] at hb0
    | some (ax, cx, xs), c, ha, S, R, q =>
      refine (pe_callB (c.isi ax cx xs rfl) hg hm hv (pa_cons ha (pa_cons pz pa_nil (star_of _ X.env rfl)) (star_of _ X.env hs)) hn hdb (star_of _ X.env hs) (plain_of pos rfl)).run pins s sg H Q I ?_
      refine tE_one S R q fun t m' w' H' v le S' r q => ?_
      obtain ⟨y, hy, q2⟩ := Res.to_ofO q
      obtain ⟨b, hb', rfl⟩ := Option.map_eq_some_iff.mp hy
      have hb2 : isTy D.C.sub m' t (.cls d) = some b := by
        simp only [isTys] at hb'
        cases hq : isTy D.C.sub m' t (.cls d) with
        | none => rw [hq] at hb'; cases hb'
        | some c => rw [hq] at hb'; cases c <;> simpa using hb'
      cases r with
      | exc e =>
        cases e
        exact ⟨cv, cw, b, rfl, hu, hk _ _ hb2, okV.use (okV.mono (show okV (X.kx (some (ax, cx, xs))) w Q (.bl b) m' from q2) le) S' (.bl b)⟩
      | _ => simp [isTy] at hb2
  · cases h
theorem callF_of {sc : Scope} {X : Cx} {W : WX} {f : Nat} {as : EL} {ds : List T} {op : BoolOp} {x : Str} {p pos : Pos} {ea : List Expr} (hn : hx = none) (c : Cok L D N sc hx X) (tk : L2N.Takes X W) (h1 : glB sc x = true)
    (h2 : (match L.fns.lookup x with | some (g, df) => decide (g = f) && decide (ds.length ≤ df.length) && T.sames (df.drop (df.length - ds.length)) ds | none => false) = true) (g : JA X hx D W as ea) (gs : ea.all notStar = true) (g0 : ea = [] → as = .nil) : Good X hx D W (.callF f as ds) op [.Call (.Name x p) ea [] pos] := by
  subst hn
  obtain ⟨a1, a2, a3⟩ := glB_of c h1
  split at h2
  · rename_i f' df e
    obtain ⟨h2, b3⟩ := band h2
    obtain ⟨b1, b2⟩ := band h2
    have b1 := of_decide_eq_true b1
    have b2 := of_decide_eq_true b2
    have b3 := sames_eq _ _ b3
    subst b1
    obtain ⟨k, fa, fd, ps, F, hr, hm, hk, hd⟩ := c.fns _ _ _ e
    obtain ⟨dvs, dvl, hb, hv, hds⟩ := hd _ b2
    rw [b3] at hds
    have pe : PE X (.Call (.Name x p) ea [] pos) (tCallSD (spT (X.kx none) D f') dvs (fun sg cls d H => W cls d sg H) (tA (X.kx none) D W as)) := by
      cases ea with
      | nil =>
        cases as with
        | nil => exact E_callF0 (ds := ds) F hr a1 hm hk hb hv tk a2
        | cons e r => cases g0 rfl
      | cons e er =>
        rw [List.all_cons] at gs
        obtain ⟨s1, s2⟩ := band gs
        exact E_callF F hr a1 hm hk hb hv hds tk g a2 (star_of er X.env s1) (plain_of pos s2)
    exact .ofN (PE.imp pe fun sg H Q q => callF_tE hds sg H Q q) (PE.imp pe fun sg H Q q => callF_tN hds sg H Q q) rfl rfl
  · cases h2
theorem args_hd {r : EL} {e : E} {ea : Expr} {er : List Expr} {X : Cx} {W : WX} (h1 : notStar ea = true) (g : JE X hx D W e ea) (h2 : JA X hx D W r er) : JA X hx D W (.cons e r) (ea :: er) := A_cons g h2 (star_of er X.env h1)
theorem ps_imp {X : Cx} {st : Stmt} {t t' : TS} (h : PS X st t) (k : ∀ sg H D, t' D sg H → t D sg H) : PS X st t' := ⟨fun pins s sg H D I q => h.run pins s sg H D I (k sg H D q)⟩
mutual
theorem ck_ok : ∀ (m : E) {L : Lk} (op : BoolOp) (es : List Expr) (sc : Scope), ck L N m sc op es = true → ∀ {X : Cx} {W : WX}, Cok L D N sc hx X → L2N.Takes X W → Good X hx D W m op es
  | .cst t, L, op, es, sc, h, X, W, c, tk => by
    simp only [ck, kCst] at h
    split at h
    · obtain ⟨v, hv, r⟩ := cst_of (X := X) h
      exact .ofE (E_cst hv r) rfl rfl fun _ _ _ => rfl
    · cases h
  | .glo x t, L, op, es, sc, h, X, W, c, tk => by
    simp only [ck, kGlo] at h
    split at h
    · obtain ⟨h1, h2⟩ := band h
      obtain ⟨a1, a2, a3⟩ := glB_of c h1
      split at h2
      · rename_i u e
        have h2 := same_eq _ _ h2
        subst h2
        obtain ⟨v, z, b1, b2, b3⟩ := c.cst _ _ e
        exact .ofE (E_glo (pe_glob a1 b1 b2 a2) b3) rfl rfl fun _ _ _ => rfl
      · cases h2
    · cases h
  | .var i, L, op, es, sc, h, X, W, c, tk => by
    simp only [ck, kVar] at h
    split at h
    · exact .ofE (E_var (c.vis h)) rfl rfl fun _ _ _ => rfl
    · cases h
  | .bin o a b, L, op, es, sc, h, X, W, c, tk => by
    simp only [ck, kBin] at h
    split at h
    · obtain ⟨h, h3⟩ := band h
      obtain ⟨h1, h2⟩ := band h
      have h1 := of_decide_eq_true h1
      subst h1
      exact .ofE (E_bin ((ck_ok a _ _ _ h2 c tk).e _ rfl) ((ck_ok b _ _ _ h3 c tk).e _ rfl)) rfl rfl fun _ _ _ => rfl
    · cases h
  | .neg a, L, op, es, sc, h, X, W, c, tk => by
    simp only [ck, kNeg] at h
    split at h
    · exact .ofE (E_neg ((ck_ok a _ _ _ h c tk).e _ rfl)) rfl rfl fun _ _ _ => rfl
    · cases h
  | .cmp o a b, L, op, es, sc, h, X, W, c, tk => by
    simp only [ck, kCmp] at h
    split at h
    · obtain ⟨h, h4⟩ := band h
      obtain ⟨h, h3⟩ := band h
      obtain ⟨h1, h2⟩ := band h
      have h1 := of_decide_eq_true h1
      subst h1
      have ga := (ck_ok a _ _ _ h3 c tk).e _ rfl
      have gb := (ck_ok b _ _ _ h4 c tk).e _ rfl
      exact .ofT (E_cmp c.un ga gb (mark_of h2)) (T_cmp c.un ga gb (mark_of h2)) rfl fun _ _ _ => rfl
    · cases h
  | .chain o p a b d, L, op, es, sc, h, X, W, c, tk => by
    simp only [ck, kChain] at h
    split at h
    · obtain ⟨h, h6⟩ := band h
      obtain ⟨h, h5⟩ := band h
      obtain ⟨h, h4⟩ := band h
      obtain ⟨h, h3⟩ := band h
      obtain ⟨h1, h2⟩ := band h
      have h1 := of_decide_eq_true h1
      have h2 := of_decide_eq_true h2
      subst h1 h2
      have ga := (ck_ok a _ _ _ h4 c tk).e _ rfl
      have gb := (ck_ok b _ _ _ h5 c tk).e _ rfl
      have gd := (ck_ok d _ _ _ h6 c tk).e _ rfl
      exact .ofT (E_chain c.un ga gb gd (mark_of h3)) (T_chain c.un ga gb gd (mark_of h3)) rfl fun _ _ _ => rfl
    · cases h
  | .and a b, L, op, es, sc, h, X, W, c, tk => by
    simp only [ck, kBool] at h
    split at h
    · cases h
    · obtain ⟨h, h3⟩ := band h
      obtain ⟨h1, h2⟩ := band h
      have h1 := of_decide_eq_true h1
      subst h1
      have ga := ck_ok a _ _ _ h2 c tk
      have gb := ck_ok b _ _ _ h3 c tk
      exact .ofT (E_and (ga.e _ rfl) (gb.b _)) (W_and (ga.t _ rfl) (gb.w _)).pt rfl fun _ _ _ => rfl
    · cases h
    · obtain ⟨h, h3⟩ := band h
      obtain ⟨h1, h2⟩ := band h
      have h1 := of_decide_eq_true h1
      subst h1
      have ga := ck_ok a _ _ _ h2 c tk
      have gb := ck_ok b _ _ _ h3 c tk
      refine ⟨fun _ h => by simp at h, fun _ h => by simp at h, fun _ h => by simp at h, fun _ h => by simp at h, fun pos => E_and (ga.e _ rfl) (gb.b _), fun pos => W_and (ga.t _ rfl) (gb.w _)⟩
  | .or a b, L, op, es, sc, h, X, W, c, tk => by
    simp only [ck, kBool] at h
    split at h
    · cases h
    · obtain ⟨h, h3⟩ := band h
      obtain ⟨h1, h2⟩ := band h
      have h1 := of_decide_eq_true h1
      subst h1
      have ga := ck_ok a _ _ _ h2 c tk
      have gb := ck_ok b _ _ _ h3 c tk
      exact .ofT (E_or (ga.e _ rfl) (gb.b _)) (W_or (ga.t _ rfl) (gb.w _)).pt rfl fun _ _ _ => rfl
    · cases h
    · obtain ⟨h, h3⟩ := band h
      obtain ⟨h1, h2⟩ := band h
      have h1 := of_decide_eq_true h1
      subst h1
      have ga := ck_ok a _ _ _ h2 c tk
      have gb := ck_ok b _ _ _ h3 c tk
      refine ⟨fun _ h => by simp at h, fun _ h => by simp at h, fun _ h => by simp at h, fun _ h => by simp at h, fun pos => E_or (ga.e _ rfl) (gb.b _), fun pos => W_or (ga.t _ rfl) (gb.w _)⟩
  | .not a, L, op, es, sc, h, X, W, c, tk => by
    simp only [ck, kNot] at h
    split at h
    · have g := ck_ok a _ _ _ h c tk
      exact .ofT (E_not (g.e _ rfl)) (T_not (g.t _ rfl)) rfl fun _ _ _ => rfl
    · cases h
  | .ite d a b, L, op, es, sc, h, X, W, c, tk => by
    simp only [ck, kIte] at h
    split at h
    · obtain ⟨h, h3⟩ := band h
      obtain ⟨h1, h2⟩ := band h
      have gd := ck_ok d _ _ _ h1 c tk
      have ga := ck_ok a _ _ _ h2 c tk
      have gb := ck_ok b _ _ _ h3 c tk
      exact .ofT (E_ite (gd.t _ rfl) (ga.e _ rfl) (gb.e _ rfl)) (E_iteT (gd.t _ rfl) (ga.t _ rfl) (gb.t _ rfl)) rfl fun _ _ _ => rfl
    · cases h
  | .list as, L, op, es, sc, h, X, W, c, tk => by
    simp only [ck, kList] at h
    split at h
    · obtain ⟨g, _⟩ := ckA_ok as _ _ h c tk
      exact .ofN (E_list g) (N_list g) rfl rfl
    · cases h
  | .tup as, L, op, es, sc, h, X, W, c, tk => by
    simp only [ck, kTup] at h
    split at h
    · obtain ⟨g, _⟩ := ckA_ok as _ _ h c tk
      exact .ofE (E_tup g) rfl rfl fun _ _ _ => rfl
    · cases h
  | .idx a k, L, op, es, sc, h, X, W, c, tk => by
    simp only [ck, kIdx] at h
    split at h
    · obtain ⟨h, h3⟩ := band h
      obtain ⟨h1, h2⟩ := band h
      exact .ofE (E_idx ((ck_ok a _ _ _ h2 c tk).e _ rfl) ((ck_ok k _ _ _ h3 c tk).e _ rfl) (ix_of h1)) rfl rfl fun _ _ _ => rfl
    · cases h
  | .slice a lo hi, L, op, es, sc, h, X, W, c, tk => by
    simp only [ck, kSlice] at h
    split at h
    · rename_i ea el eh p2 p1
      obtain ⟨h, h3⟩ := band h
      obtain ⟨h1, h2⟩ := band h
      have jl : JO X hx D W lo el := by
        unfold kOpt at h2
        split at h2
        · unfold isNonC at h2
          split at h2
          · exact .none
          · cases h2
        · exact .some ((ck_ok lo _ _ _ h2 c tk).e _ rfl)
      have jh : JO X hx D W hi eh := by
        unfold kOpt at h3
        split at h3
        · unfold isNonC at h3
          split at h3
          · exact .none
          · cases h3
        · exact .some ((ck_ok hi _ _ _ h3 c tk).e _ rfl)
      exact .ofE (E_slice ((ck_ok a _ _ _ h1 c tk).e _ rfl) jl jh) rfl rfl fun _ _ _ => rfl
    · cases h
  | .comp own g it d e, L, op, es, sc, h, X, W, c, tk => by
    simp only [ck, kComp] at h
    split at h
    · rename_i elt tg iter ifs as scope p
      obtain ⟨h, h8⟩ := band h
      obtain ⟨h, h7⟩ := band h
      obtain ⟨h, h6⟩ := band h
      obtain ⟨h, h5⟩ := band h
      obtain ⟨h, h4⟩ := band h
      obtain ⟨h, h3⟩ := band h
      obtain ⟨h, h2⟩ := band h
      obtain ⟨h0, h1⟩ := band h
      have h0 : L.hot = false := by simpa using h0
      obtain ⟨hc, hn⟩ := c.calm h0
      have h1 := of_decide_eq_true h1
      subst h1
      have jb := blk_of c h2
      have ji := ckI_ok it _ _ h6 c tk tg
      have jg := fun (s : Shared) (H : Hp) (C : Addr) (cl : List (Str × Addr)) (fp : List Addr) => G_of (X := X.blk s H scope (compEnvC scope cl C X.env) fp) hc (c.blk h0 s H C cl fp) (fun _ e => e) h4
      have jt : ∀ (s : Shared) (H : Hp) (C : Addr) (cl : List (Str × Addr)) (fp : List Addr), JTs (X.blk s H scope (compEnvC scope cl C X.env) fp) hx D W0 d ifs := by
        intro s H C cl fp
        clear h
        unfold kIfs at h7
        split at h7
        · unfold isTrueC at h7
          split at h7
          · exact .nil
          · cases h7
        · exact .one ((ck_ok d _ _ _ h7 (c.blk h0 s H C cl fp) takes_W0).t _ rfl)
        · cases h7
      have je := fun (s : Shared) (H : Hp) (C : Addr) (cl : List (Str × Addr)) (fp : List Addr) => (ck_ok e _ _ _ h8 (c.blk h0 s H C cl fp) takes_W0).e _ rfl
      have nd : X.N.Nodup := by rw [c.nm]; exact c.nd
      have pe := E_comp (pos := p) (W := W) hc nd ji jb (ownS_snd N own) (all_in h3) jg jt je (fold_of h5)
      have je' : JE X hx D W (.comp own g it d e) (.ListComp elt [⟨tg, iter, ifs, 0⟩] scope p) := PE.imp pe fun sg H Q q => comp_tE (all_in h3) _ sg H Q q
      exact .one je' (JT_of je' (plainT_of rfl)) (PE.imp pe fun sg H Q q => comp_tN (all_in h3) _ sg H Q q)
        (.inr (.inr (.inl ⟨own, g, it, d, e, elt, tg, iter, ifs, scope, _, p, rfl, rfl, ji, jb, ownS_snd N own, all_in h3, jg, jt, je, fold_of h5⟩)))
    · cases h
  | .compX own g it d e, L, op, es, sc, h, X, W, c, tk => by
    simp only [ck, kCompX] at h
    obtain ⟨hT, h⟩ := band h
    obtain ⟨hs0, hf0⟩ := c.tp hT
    unfold kComp at h
    split at h
    · rename_i elt tg iter ifs as scope p hh
      obtain ⟨h, h8⟩ := band h
      obtain ⟨h, h7⟩ := band h
      obtain ⟨h, h6⟩ := band h
      obtain ⟨h, h5⟩ := band h
      obtain ⟨h, h4⟩ := band h
      obtain ⟨h, h3⟩ := band h
      obtain ⟨h, h2⟩ := band h
      obtain ⟨h0, h1⟩ := band h
      have h0 : L.hot = false := by simpa using h0
      obtain ⟨hc, hn⟩ := c.calm h0
      have h1 := of_decide_eq_true h1
      subst h1
      have jb := blk_of c h2
      have ji := ckI_ok it _ _ h6 c tk tg
      have cb := fun (s : Shared) (H : Hp) (C : Addr) (cl : List (Str × Addr)) (fp : List Addr) => (c.blk h0 (scope := scope) s H C cl fp).tr' [] (notedBy (model X.prog X.w) X.A (compEnvC scope cl C X.env) (CompFails (model X.prog X.w) X.A X.xe (compEnvC scope cl C X.env))) hn
      have jg : ∀ (s : Shared) (H : Hp) (C : Addr) (cl : List (Str × Addr)) (fp : List Addr), PG (raiseBlk X s H scope (compEnvC scope cl C X.env) fp) tg (tG (X.kx hx) g) := fun (s : Shared) (H : Hp) (C : Addr) (cl : List (Str × Addr)) (fp : List Addr) => G_of (X := raiseBlk X s H scope (compEnvC scope cl C X.env) fp) hc (cb s H C cl fp) (fun _ e => e) h4
      have jt : ∀ (sg : L2.St) (s : Shared) (H : Hp) (C : Addr) (cl : List (Str × Addr)) (fp : List Addr), L2N.Takes (raiseBlk X s H scope (compEnvC scope cl C X.env) fp) (Wo W sg) → JTs (raiseBlk X s H scope (compEnvC scope cl C X.env) fp) hx D (Wo W sg) d ifs := by
        intro sg s H C cl fp tkb
        clear h
        unfold kIfs at h7
        split at h7
        · unfold isTrueC at h7
          split at h7
          · exact .nil
          · cases h7
        · exact .one ((ck_ok d _ _ _ h7 (cb s H C cl fp) tkb).t _ rfl)
        · cases h7
      have je := fun (sg : L2.St) (s : Shared) (H : Hp) (C : Addr) (cl : List (Str × Addr)) (fp : List Addr) (tkb : L2N.Takes (raiseBlk X s H scope (compEnvC scope cl C X.env) fp) (Wo W sg)) => (ck_ok e _ _ _ h8 (cb s H C cl fp) tkb).e _ rfl
      have nd : X.N.Nodup := by rw [c.nm]; exact c.nd
      have pe : JE X hx D W (.compX own g it d e) (.ListComp elt [⟨tg, iter, ifs, 0⟩] scope p) := E_compX hs0 hf0 tk hc nd ji jb (ownS_snd N own) (all_in h3) jg jt je (fold_of h5)
      exact .one pe (JT_of pe (plainT_of rfl)) (N_stuck fun _ _ _ => rfl)
        (.inr (.inl ⟨⟨_, _, _, _, rfl⟩, fun _ _ _ => rfl, fun i y py spos hy hyl hsw => ps_imp (A_compX hs0 hf0 tk hc nd ji jb (ownS_snd N own) (all_in h3) jg jt je (fold_of h5) hy hyl hsw) fun sg H D' q => comp_tEX (all_in h3) _ sg H _ q⟩))
    · cases h
  | .comp2 own g it d own2 g2 it2 d2 e, L, op, es, sc, h, X, W, c, tk => by
    simp only [ck, kComp2] at h
    split at h
    · rename_i elt tg iter ifs as tg2 iter2 ifs2 as2 scope p
      obtain ⟨h, h15⟩ := band h
      obtain ⟨h, h14⟩ := band h
      obtain ⟨h, h13⟩ := band h
      obtain ⟨h, h12⟩ := band h
      obtain ⟨h, h11⟩ := band h
      obtain ⟨h, h10⟩ := band h
      obtain ⟨h, h9⟩ := band h
      obtain ⟨h, h8⟩ := band h
      obtain ⟨h, h7⟩ := band h
      obtain ⟨h, h6⟩ := band h
      obtain ⟨h, h5⟩ := band h
      obtain ⟨h, h4⟩ := band h
      obtain ⟨h, h3⟩ := band h
      obtain ⟨h, h2⟩ := band h
      obtain ⟨h0, h1⟩ := band h
      have h0 : L.hot = false := by simpa using h0
      obtain ⟨hc, hn⟩ := c.calm h0
      have h1 := of_decide_eq_true h1
      have h2 := of_decide_eq_true h2
      subst h1 h2
      have jb := blk_of c h3
      have ji := ckI_ok it _ _ h9 c tk tg
      have jg := fun (s : Shared) (H : Hp) (C : Addr) (cl : List (Str × Addr)) (fp : List Addr) => G_of (X := X.blk s H scope (compEnvC scope cl C X.env) fp) hc (c.blk h0 s H C cl fp) (fun _ e => e) h7
      have jg2 := fun (s : Shared) (H : Hp) (C : Addr) (cl : List (Str × Addr)) (fp : List Addr) => G_of (X := X.blk s H scope (compEnvC scope cl C X.env) fp) hc (c.blk h0 s H C cl fp) (fun _ e => e) h11
      have jt : ∀ (s : Shared) (H : Hp) (C : Addr) (cl : List (Str × Addr)) (fp : List Addr), JTs (X.blk s H scope (compEnvC scope cl C X.env) fp) hx D W0 d ifs := by
        intro s H C cl fp
        clear h
        unfold kIfs at h10
        split at h10
        · unfold isTrueC at h10
          split at h10
          · exact .nil
          · cases h10
        · exact .one ((ck_ok d _ _ _ h10 (c.blk h0 s H C cl fp) takes_W0).t _ rfl)
        · cases h10
      have jt2 : ∀ (s : Shared) (H : Hp) (C : Addr) (cl : List (Str × Addr)) (fp : List Addr), JTs (X.blk s H scope (compEnvC scope cl C X.env) fp) hx D W0 d2 ifs2 := by
        intro s H C cl fp
        clear h
        unfold kIfs at h14
        split at h14
        · unfold isTrueC at h14
          split at h14
          · exact .nil
          · cases h14
        · exact .one ((ck_ok d2 _ _ _ h14 (c.blk h0 s H C cl fp) takes_W0).t _ rfl)
        · cases h14
      have ji2 := fun (s : Shared) (H : Hp) (C : Addr) (cl : List (Str × Addr)) (fp : List Addr) => ckI_ok it2 _ _ h13 (c.blk h0 s H C cl fp) (takes_W0 (X := X.blk s H scope (compEnvC scope cl C X.env) fp)) tg2
      have je := fun (s : Shared) (H : Hp) (C : Addr) (cl : List (Str × Addr)) (fp : List Addr) => (ck_ok e _ _ _ h15 (c.blk h0 s H C cl fp) takes_W0).e _ rfl
      have nd : X.N.Nodup := by rw [c.nm]; exact c.nd
      have pe := E_comp2 (pos := p) (W := W) hc nd ji jb (ownS_snd N own) (all_in h4) (all_in h5) (all_in h6) jg jt ji2 jg2 jt2 je (fold_of h8) fun env => fold_of h12
      have je' : JE X hx D W (.comp2 own g it d own2 g2 it2 d2 e) (.ListComp elt [⟨tg, iter, ifs, 0⟩, ⟨tg2, iter2, ifs2, 0⟩] scope p) := PE.imp pe fun sg H Q q => comp2_tE (all_in h5) (all_in h6) _ sg H Q q
      exact .one je' (JT_of je' (plainT_of rfl)) (PE.imp pe fun sg H Q q => comp2_tN (all_in h5) (all_in h6) _ sg H Q q)
        (.inr (.inr (.inr ⟨own, g, it, d, own2, g2, it2, d2, e, elt, tg, iter, ifs, tg2, iter2, ifs2, scope, _, p, rfl, rfl, ji, jb, ownS_snd N own, all_in h4, all_in h5, all_in h6, jg, jt, ji2, jg2, jt2, je, fold_of h8, fun env => fold_of h12⟩)))
    · cases h
  | .callF f as ds, L, op, es, sc, h, X, W, c, tk => by
    simp only [ck, kCallF] at h
    split at h
    · rename_i x p ea pos
      obtain ⟨h, h3⟩ := band h
      obtain ⟨h, h2⟩ := band h
      obtain ⟨h0, h1⟩ := band h
      have h0 : L.hot = false := by simpa using h0
      obtain ⟨hc, hn⟩ := c.calm h0
      obtain ⟨g, gs⟩ := ckA_ok as _ _ h3 c tk
      exact callF_of hn c tk h1 h2 g gs fun e => by
        subst e
        cases as with
        | nil => rfl
        | cons _ _ => simp [ckA, kCons] at h3
    · cases h
  | .callB f as, L, op, es, sc, h, X, W, c, tk => by
    simp only [ck, kCallB] at h
    split at h
    · rename_i x p ea er pos
      obtain ⟨h, h3⟩ := band h
      obtain ⟨h, h2⟩ := band h
      obtain ⟨h0, h1⟩ := band h
      have hc : X.calm = true ∨ quietB f = true := by
        simp only [Bool.or_eq_true, Bool.not_eq_true'] at h0
        rcases h0 with h0 | h0
        · exact .inl (c.calm h0).1
        · exact .inr h0
      obtain ⟨a1, a2, a3, a4⟩ := freeB_of c h1
      obtain ⟨g, gs⟩ := ckA_ok as _ _ h3 c tk
      rw [List.all_cons] at gs
      obtain ⟨s1, s2⟩ := band gs
      have je : JE X hx D W (.callB f as) (.Call (.Name x p) (ea :: er) [] pos) := by
        rcases call_of (X := X) hc h2 with ⟨id, b1, b2⟩ | ⟨id, b1, b2⟩
        · exact E_callB b1 a1 a4 b2 g a3 a2 (star_of er X.env s1) (plain_of pos s2)
        · exact E_callTy b1 a1 a4 b2 g a3 a2 (star_of er X.env s1) (plain_of pos s2)
      have jn : JN X hx D W (.callB f as) (.Call (.Name x p) (ea :: er) [] pos) := by
        cases f <;> first
          | exact N_stuck fun _ _ _ => rfl
          | (exfalso; cases h2)
          | (have h2 := of_decide_eq_true (show decide _ = true from h2); subst h2; exact N_callList a1 a4 rfl g a3 a2 (star_of er X.env s1) (plain_of pos s2))
      exact .ofN je jn rfl rfl
    · cases h
  | .isinst a ys, L, op, es, sc, h, X, W, c, tk => by
    simp only [ck, kIsi] at h
    split at h
    · rename_i x p ea eb pos
      obtain ⟨h, h5⟩ := band h
      obtain ⟨h, h4⟩ := band h
      obtain ⟨h, h3⟩ := band h
      obtain ⟨h1, h2⟩ := band h
      have h1 := of_decide_eq_true h1
      obtain ⟨a1, a2, a3, a4⟩ := freeB_of c h2
      have hv : bootBuiltins x = some (.builtin "isinstance") := by rw [h1]; rfl
      have g := (ck_ok a _ _ _ h4 c tk).e _ rfl
      have je : JE X hx D W (.isinst a ys) (.Call (.Name x p) [ea, eb] [] pos) := by
        rw [Bool.or_eq_true] at h5
        rcases h5.symm with h5 | h5
        · exact isx_of c h5 a1 a4 hv g a3 a2 h3
        unfold tyA at h5
        split at h5
        · rename_i es k pt
          obtain ⟨h5, h7⟩ := band h5
          obtain ⟨h5, h6⟩ := band h5
          cases ys with
          | nil => simp at h5
          | cons y ys => exact E_isiN a1 a4 hv g (tys_of c h7) a3 a2 (of_decide_eq_true h6) (star_of _ X.env h3) (star_of _ X.env rfl) (plain_of pos rfl)
        · split at h5
          · obtain ⟨b1, b2, b3⟩ := ty_of c h5
            exact E_isi b1 a1 a4 hv g b2 a3 a2 (star_of _ X.env h3) (star_of _ X.env b3) (plain_of pos (by simp [b3]))
          · cases h5
      exact .ofE je rfl rfl fun _ _ _ => rfl
    · cases h
  | .mut f o as, L, op, es, sc, h, X, W, c, tk => by
    simp only [ck, kMut] at h
    split at h
    · obtain ⟨h, h6⟩ := band h
      obtain ⟨h, h5⟩ := band h
      obtain ⟨h, h4⟩ := band h
      obtain ⟨h, h3⟩ := band h
      obtain ⟨h1, h2⟩ := band h
      obtain ⟨g, gs⟩ := ckA_ok as _ _ h6 c tk
      exact .ofE (E_mutOf h1 ((ck_ok o _ _ _ h5 c tk).e _ rfl) g h2 (of_decide_eq_true h3) (of_decide_eq_true h4) gs) rfl rfl fun _ _ _ => rfl
    · cases h
  | .dct .., L, _, _, _, h, _, _, _, _ => by simp only [ck] at h; cases h
  | .scomp .., L, _, _, _, h, _, _, _, _ => by simp only [ck] at h; cases h
  | .dcomp .., L, _, _, _, h, _, _, _, _ => by simp only [ck] at h; cases h
  | .listI (.rng a), L, op, es, sc, h, X, W, c, tk => by
    simp only [ck, kListI] at h
    split at h
    · obtain ⟨h, h5⟩ := band h
      obtain ⟨h, h4⟩ := band h
      obtain ⟨h, h3⟩ := band h
      obtain ⟨h1, h2⟩ := band h
      have h1 : L.hot = false := by simpa using h1
      have h3 := of_decide_eq_true h3
      subst h3
      obtain ⟨a1, a2, a3, a4⟩ := freeB_of c h4
      simp only [ckI, kRng] at h5
      split at h5
      · obtain ⟨h5, h8⟩ := band h5
        obtain ⟨h5, h7⟩ := band h5
        obtain ⟨h5, h6⟩ := band h5
        have h5 := of_decide_eq_true h5
        subst h5
        obtain ⟨b1, b2, b3, b4⟩ := freeB_of c h6
        exact .ofE (E_listR1 (c.calm h1).1 a1 a4 b1 b4 ((ck_ok a _ _ _ h8 c tk).e _ rfl) (star_of _ X.env h7)) rfl rfl fun _ _ _ => rfl
      · cases h5
    · cases h
  | .listI (.rng2 a b), L, op, es, sc, h, X, W, c, tk => by
    simp only [ck, kListI] at h
    split at h
    · obtain ⟨h, h5⟩ := band h
      obtain ⟨h, h4⟩ := band h
      obtain ⟨h, h3⟩ := band h
      obtain ⟨h1, h2⟩ := band h
      have h1 : L.hot = false := by simpa using h1
      have h3 := of_decide_eq_true h3
      subst h3
      obtain ⟨a1, a2, a3, a4⟩ := freeB_of c h4
      simp only [ckI, kRng2] at h5
      split at h5
      · rename_i pos2
        obtain ⟨h5, h10⟩ := band h5
        obtain ⟨h5, h9⟩ := band h5
        obtain ⟨h5, h8⟩ := band h5
        obtain ⟨h5, h7⟩ := band h5
        obtain ⟨h5, h6⟩ := band h5
        have h5 := of_decide_eq_true h5
        subst h5
        obtain ⟨b1, b2, b3, b4⟩ := freeB_of c h6
        exact .ofE (E_listR2 (c.calm h1).1 a1 a4 b1 b4 ((ck_ok a _ _ _ h9 c tk).e _ rfl) ((ck_ok b _ _ _ h10 c tk).e _ rfl) ((star_of _ X.env h7).trans (by rw [star_of _ X.env h8]; rfl)) (star_of _ X.env h8) (plain_of _ (by simp [h8]))) rfl rfl fun _ _ _ => rfl
      · cases h5
    · cases h
  | .listI (.of _), L, _, _, _, h, _, _, _, _ => by
    simp only [ck, kListI, isRg] at h
    split at h
    · simp at h
    · cases h
  | .listI (.rng3 _ _ _), L, _, _, _, h, _, _, _, _ => by
    simp only [ck, kListI, isRg] at h
    split at h
    · simp at h
    · cases h
  | .listI (.rev a), L, op, es, sc, h, X, W, c, tk => by
    simp only [ck, kListI] at h
    split at h
    · obtain ⟨h, h5⟩ := band h
      obtain ⟨h, h4⟩ := band h
      obtain ⟨h, h3⟩ := band h
      obtain ⟨h1, h2⟩ := band h
      have h1 : L.hot = false := by simpa using h1
      have h3 := of_decide_eq_true h3
      subst h3
      obtain ⟨a1, a2, a3, a4⟩ := freeB_of c h4
      simp only [ckI, kRev] at h5
      split at h5
      · obtain ⟨h5, h8⟩ := band h5
        obtain ⟨h5, h7⟩ := band h5
        obtain ⟨h5, h6⟩ := band h5
        have h5 := of_decide_eq_true h5
        subst h5
        obtain ⟨b1, b2, b3, b4⟩ := freeB_of c h6
        exact .ofE (E_listBack (c.calm h1).1 a1 a4 b1 b4 ((ck_ok a _ _ _ h8 c tk).e _ rfl) (star_of _ X.env h7)) rfl rfl fun _ _ _ => rfl
      · cases h5
    · cases h
  | .listI (.zip _ _), L, _, _, _, h, _, _, _, _ => by
    simp only [ck, kListI, isRg] at h
    split at h
    · simp at h
    · cases h
  | .meth f o .nil, L, _, _, _, h, _, _, _, _ => by
    simp only [ck, kMeth] at h
    split at h
    · simp [ckA] at h
    · cases h
  | .meth f o (.cons a (.cons b r)), L, _, _, _, h, _, _, _, _ => by
    simp only [ck, kMeth] at h
    split at h
    · simp [ckA, kCons] at h
    · cases h
  | .meth f o (.cons a .nil), L, op, es, sc, h, X, W, c, tk => by
    simp only [ck, kMeth] at h
    split at h
    · obtain ⟨h, h6⟩ := band h
      obtain ⟨h, h5⟩ := band h
      obtain ⟨h, h4⟩ := band h
      obtain ⟨h, h3⟩ := band h
      obtain ⟨h1, h2⟩ := band h
      have h1 := of_decide_eq_true h1
      have h2 := of_decide_eq_true h2
      subst h1; subst h2
      have hl : _ = _ := of_decide_eq_true h4
      simp only [ckA, kCons] at h6
      obtain ⟨h6, _⟩ := band h6
      obtain ⟨h6, h7⟩ := band h6
      exact .ofE (E_join ((ck_ok o _ _ _ h5 c tk).e _ rfl) ((ck_ok a _ _ _ h7 c tk).e _ rfl) (star_of _ X.env h6) (base_of h3) (by simpa using hl)) rfl rfl fun _ _ _ => rfl
    · cases h
  | .callM .., L, _, _, _, h, _, _, _, _ => by simp only [ck] at h; cases h
  | .new .., L, _, _, _, h, _, _, _, _ => by simp only [ck] at h; cases h
  | .attr .., L, _, _, _, h, _, _, _, _ => by simp only [ck] at h; cases h
theorem ckA_ok : ∀ (as : EL) {L : Lk} (es : List Expr) (sc : Scope), ckA L N as sc es = true → ∀ {X : Cx} {W : WX}, Cok L D N sc hx X → L2N.Takes X W → JA X hx D W as es ∧ es.all notStar = true
  | .nil, L, es, sc, h, X, W, c, tk => by
    simp only [ckA] at h
    cases es with
    | nil => exact ⟨A_nil, rfl⟩
    | cons _ _ => cases h
  | .cons e r, L, es, sc, h, X, W, c, tk => by
    simp only [ckA, kCons] at h
    split at h
    · obtain ⟨h, h3⟩ := band h
      obtain ⟨h1, h2⟩ := band h
      obtain ⟨g, gs⟩ := ckA_ok r _ _ h3 c tk
      refine ⟨args_hd h1 ((ck_ok e _ _ _ h2 c tk).e _ rfl) g, ?_⟩
      rw [List.all_cons, h1, gs]; rfl
    · cases h
theorem ckI_ok : ∀ (it : It) {L : Lk} (iter : Expr) (sc : Scope), ckI L N it sc iter = true → ∀ {X : Cx} {W : WX}, Cok L D N sc hx X → L2N.Takes X W → ∀ tg, JI X hx D W tg it iter
  | .of e, L, iter, sc, h, X, W, c, tk => fun tg => by
    simp only [ckI] at h
    exact I_of ((ck_ok e _ _ _ h c tk).e _ rfl)
  | .rng a, L, iter, sc, h, X, W, c, tk => fun tg => by
    simp only [ckI, kRng] at h
    split at h
    · obtain ⟨h, h4⟩ := band h
      obtain ⟨h, h3⟩ := band h
      obtain ⟨h1, h2⟩ := band h
      have h1 := of_decide_eq_true h1
      subst h1
      obtain ⟨a1, a2, a3, a4⟩ := freeB_of c h2
      exact I_rng a1 a4 (args_hd h3 ((ck_ok a _ _ _ h4 c tk).e _ rfl) A_nil) (star_of _ X.env h3)
    · cases h
  | .rng2 a b, L, iter, sc, h, X, W, c, tk => fun tg => by
    simp only [ckI, kRng2] at h
    split at h
    · obtain ⟨h, h6⟩ := band h
      obtain ⟨h, h5⟩ := band h
      obtain ⟨h, h4⟩ := band h
      obtain ⟨h, h3⟩ := band h
      obtain ⟨h1, h2⟩ := band h
      have h1 := of_decide_eq_true h1
      subst h1
      obtain ⟨a1, a2, a3, a4⟩ := freeB_of c h2
      exact I_rng2 a1 a4 (args_hd h3 ((ck_ok a _ _ _ h5 c tk).e _ rfl) (args_hd h4 ((ck_ok b _ _ _ h6 c tk).e _ rfl) A_nil)) ((star_of _ X.env h3).trans (by rw [star_of _ X.env h4]; rfl)) (star_of _ X.env h4)
    · cases h
  | .rng3 a b d, L, iter, sc, h, X, W, c, tk => fun tg => by
    simp only [ckI, kRng3] at h
    split at h
    · rename_i ea eb ec pos
      obtain ⟨h, h8⟩ := band h
      obtain ⟨h, h7⟩ := band h
      obtain ⟨h, h6⟩ := band h
      obtain ⟨h, h5⟩ := band h
      obtain ⟨h, h4⟩ := band h
      obtain ⟨h, h3⟩ := band h
      obtain ⟨h1, h2⟩ := band h
      have h1 := of_decide_eq_true h1
      subst h1
      obtain ⟨a1, a2, a3, a4⟩ := freeB_of c h2
      exact I_rng3 a1 a4 (args_hd h3 ((ck_ok a _ _ _ h6 c tk).e _ rfl) (args_hd h4 ((ck_ok b _ _ _ h7 c tk).e _ rfl) (args_hd h5 ((ck_ok d _ _ _ h8 c tk).e _ rfl) A_nil))) (star_of _ X.env h3) (plain_of pos (by simp [h4, h5]))
    · cases h
  | .rev e, L, iter, sc, h, X, W, c, tk => fun tg => by
    simp only [ckI, kRev] at h
    split at h
    · obtain ⟨h, h4⟩ := band h
      obtain ⟨h, h3⟩ := band h
      obtain ⟨h1, h2⟩ := band h
      have h1 := of_decide_eq_true h1
      subst h1
      obtain ⟨a1, a2, a3, a4⟩ := freeB_of c h2
      exact I_rev a1 a4 (args_hd h3 ((ck_ok e _ _ _ h4 c tk).e _ rfl) A_nil) (star_of _ X.env h3)
    · cases h
  | .zip .., L, _, _, h, _, _, _, _ => by simp only [ckI] at h; cases h
end
end
end MP
end

section
set_option Elab.async false
set_option Elab.async false
set_option linter.all false
set_option maxRecDepth 100000
/-! MP15: the check of statements, and what it gives. -/
namespace MP
open PySem PySem.Spec PyProof.Rows L2

def isSeq : S → Bool
  | .seq .. => true
  | _ => false
def isFrz : S → Bool
  | .freeze _ => true
  | _ => false
def kSkip (sts : List Stmt) : Bool := match sts with | [] => true | [.Pass _] => true | _ => false
def kSeq (fz sq : Bool) (a : Stmt → Bool) (b : List Stmt → Bool) (sts : List Stmt) : Bool :=
  if fz then b sts else (match sts with | st :: r => !sq && a st && b r | [] => false)
def kSet (N : List Str) (sc : Scope) (i : Nat) (e : Expr → Bool) (sts : List Stmt) : Bool := match sts with | [.Assign [.Name x _] ee _] => tgB allN N sc i x && e ee | _ => false
def kMany (N : List Str) (sc : Scope) (is : List Nat) (e : Expr → Bool) (sts : List Stmt) : Bool := match sts with | [.Assign [.Tuple ts _ _] ee _] => ckGs allN N sc is ts && notTup ee && e ee | _ => false
where notTup : Expr → Bool
  | .Tuple .. => false
  | _ => true
def kSetIdx (o k v : Expr → Bool) (sts : List Stmt) : Bool := match sts with | [.Assign [.Subscript oe ke _] ve _] => v ve && o oe && k ke && notSlice ke | _ => false
def kExpr (e : Expr → Bool) (sts : List Stmt) : Bool := match sts with | [.Expr ee _] => notLc ee && e ee | _ => false
def kIf (c : Expr → Bool) (a b : List Stmt → Bool) (sts : List Stmt) : Bool := match sts with | [.If ec sa sb _] => c ec && a sa && b sb | _ => false
def kFor (N : List Str) (sc : Scope) (g : Tgt) (it : Expr → Bool) (b : List Stmt → Bool) (sts : List Stmt) : Bool := match sts with | [.For tg iter sb [] _] => ckG allN N sc g tg && notSet iter && it iter && b sb | _ => false
def kWhile (c : Expr → Bool) (b : List Stmt → Bool) (sts : List Stmt) : Bool := match sts with | [.While ec sb [] _] => c ec && b sb | _ => false
def kBrk (sts : List Stmt) : Bool := match sts with | [.Break _] => true | _ => false
def kCnt (sts : List Stmt) : Bool := match sts with | [.Continue _] => true | _ => false
def kRet (n : Bool) (e : Expr → Bool) (sts : List Stmt) : Bool := match sts with | [.Return (some ee) _] => e ee | [.Return none _] => n | _ => false
def kRetN (e : Expr → Bool) (sts : List Stmt) : Bool := match sts with | [.Return (some ee) _] => e ee | _ => false
def kRetM (N : List Str) (sc : Scope) (i : Nat) (sts : List Stmt) : Bool := match sts with | [.Return (some (.Name x _)) _] => varB N sc i x | _ => false
def kRaise (L : Lk) (sc : Scope) (c : Nat) (a : Expr → Bool) (sts : List Stmt) : Bool := match sts with
  | [.Raise (some (.Call (.Name x _) [ea] [] _)) none _] => glB sc x && decide (L.cls.lookup x = some c) && notStar ea && a ea
  | _ => false
def kTryRef (L : Lk) (N : List Str) (sc : Scope) (d : Nat) (b : List Stmt → Bool) (sts : List Stmt) : Bool := match sts with
  | [.Try sb [.ExceptHandler (some (.Name x _)) (some n) [.Return (some (.Call (.Name fx _) [.Name n' _] [] _)) _] _] [] [] _] =>
    glB sc x && decide (L.cls.lookup x = some d) && decide (L.rfn = some fx) && glB sc fx && decide (n' = n) && (N.any fun z => decide (z = n)) && decide (sc.names.lookup n = some .local) && !(n == ("__debug__" : Str)) && !(n == ("__classdict__" : Str)) && b sb
  | _ => false
def oneArg : EL → Bool
  | .cons _ .nil => true
  | _ => false
def hdE : EL → E
  | .cons e _ => e
  | .nil => .cst .non
mutual
def ckS (L : Lk) (N : List Str) (sc : Scope) : S → List Stmt → Bool
  | .skip, sts => kSkip sts
  | .seq a b, sts => kSeq (isFrz a) (isSeq a) (fun st => ckS L N sc a [st]) (fun r => ckS L N sc b r) sts
  | .set i e, sts => kSet N sc i (fun x => ck L N e sc .And [x]) sts
  | .setBox i e, sts => kSet N sc i (fun x => ck L N e sc .And [x]) sts
  | .setMany is e, sts => kMany N sc is (fun x => ck L N e sc .And [x]) sts
  | .setIdx o k v, sts => kSetIdx (fun x => ck L N o sc .And [x]) (fun x => ck L N k sc .And [x]) (fun x => ck L N v sc .And [x]) sts
  | .expr e, sts => kExpr (fun x => ck L N e sc .And [x]) sts
  | .ite c a b, sts => kIf (fun x => ck L N c sc .And [x]) (fun r => ckS L N sc a r) (fun r => ckS L N sc b r) sts
  | .for g it body, sts => kFor N sc g (fun x => ckI L N it sc x) (fun r => ckS L N sc body r) sts
  | .while c body, sts => kWhile (fun x => ck L N c sc .And [x]) (fun r => ckS L N sc body r) sts
  | .brk, sts => kBrk sts
  | .cnt, sts => kCnt sts
  | .ret e, sts => kRet (isNonC e) (fun x => ck L N e sc .And [x]) sts
  | .retNew e, sts => kRetN (fun x => ck L N e sc .And [x]) sts
  | .retMove i, sts => kRetM N sc i sts
  | .raise c keep as, sts => !keep && oneArg as && kRaise L sc c (fun x => ck L N (hdE as) sc .And [x]) sts
  | .tryRef body d, sts => kTryRef L N sc d (fun r => ckS L N sc body r) sts
  | .setPar .., _ => false
  | .setAttr .., _ => false
  | .setAttrBox .., _ => false
  | .tryx .., _ => false
  | .freeze _, _ => false
end
/-- what the def that tells a refused deed's kind does in an except suite -/
def RefOk (X : Cx) (D : Sd) (x : Str) : Prop := ∀ (j : Nat) (n : Str) (p1 p2 p3 p4 : Pos) (a : Addr) (oe : Obj) (cls : Value) (d : Option Addr) (pn : List (Addr × Obj)), X.N[j]? = some n → X.env.kindOf n = some .local → (n == ("__debug__" : Str)) = false → (n == ("__classdict__" : Str)) = false →
  L2N.Zn cls d oe → (∃ vs, oe.data = .fields vs) →
  PS (X.suite a ((a, oe) :: pn)) (.Return (some (.Call (.Name x p1) [.Name n p2] [] p3)) p4) (fun En sg H => ∃ c s, cls = .ref (D.cA c) ∧ d = none ∧ D.C.rf c = some s ∧ (sg.length = X.N.length → sg[j]? = some (some (.ref a))) ∧ H a = none ∧ ∃ w m, Sim (X.kx none) w m H ∧ okN (X.kx none) w En.rt (.str s, false) m)
structure Cos (L : Lk) (D : Sd) (N : List Str) (sc : Scope) (X : Cx) : Prop where
  c : Cok L D N sc none X
  calm : X.calm = true
  fn : ∀ x, X.fn x = true
  po : PassesOwn (model X.prog X.w) X.A X.env X.xe
  bk : X.env.blockKind = .function
  hs : X.stack = X.env :: X.outer
  hf : X.env.frame = some X.env.locals
  sub : ∀ x d, L.cls.lookup x = some d → ∀ c b, D.C.sub c d = some b → PySem.W.exmOne X.K (.ref (D.cA c)) (.ref (D.cA d)) = some b
  rfs : ∀ x, L.rfn = some x → Gl X x → RefOk X D x
theorem Cos.tr {L : Lk} {D : Sd} {N : List Str} {sc : Scope} {X : Cx} (c : Cos L D N sc X) (pn : List (Addr × Obj)) (xe : Value → Shared → Prop) (po : PassesOwn (model X.prog X.w) X.A X.env xe) : Cos L D N sc (X.tr pn xe) :=
  ⟨⟨c.c.nm, c.c.nd, c.c.sc, c.c.calm, c.c.un, c.c.free, c.c.cst, c.c.fns, c.c.cls, (fun _ _ _ e => by cases e), c.c.tp, c.c.isx⟩, c.calm, c.fn, po, c.bk, c.hs, c.hf, c.sub, c.rfs⟩
structure GoodS (X : Cx) (D : Sd) (W : WX) (m : S) (sts : List Stmt) : Prop where
  b : JB X none D W m sts
  s : ∀ st, sts = [st] → isSeq m = false → JS X none D W m st
section
variable {L : Lk} {D : Sd} {N : List Str} {sc : Scope} {X : Cx} {W : WX} {pos p : Pos}
theorem GoodS.one {m : S} {st : Stmt} (h : JS X none D W m st) : GoodS X D W m [st] := ⟨B_one h, fun _ e _ => by cases e; exact h⟩
theorem sw_plain {e : Expr} {t : Option Expr} {line : Nat} {env : PySem.Env} (h : notLc e = true) : swapsWith e t line env = pure false := by
  cases e <;> first | rfl | cases h
theorem swL {elt : Expr} {gs : List Comprehension} {scope : Scope} {q : Pos} {x : Str} {px : Pos} {line : Nat} {env : PySem.Env} : ∃ b, swapsWith (.ListComp elt gs scope q) (some (.Name x px)) line env = pure b := ⟨_, rfl⟩
theorem tg_at {hx : Option (Addr × Nat × List T)} (c : Cok L D N sc hx X) {i : Nat} {x : Str} (h : tgB allN N sc i x = true) : X.N[i]? = some x ∧ (X.env.scope.names.lookup x = some .local ∨ X.env.scope.names.lookup x = some .cell) := by
  unfold tgB at h
  obtain ⟨h1, h2⟩ := band h
  rw [Bool.or_eq_true] at h2
  refine ⟨by rw [c.nm]; exact of_decide_eq_true h1, ?_⟩
  rw [c.sc]
  rcases h2 with h2 | h2
  · exact .inl (of_decide_eq_true h2)
  · exact .inr (of_decide_eq_true (band h2).2)
theorem set_plain {hx : Option (Addr × Nat × List T)} {i : Nat} {x : Str} {px : Pos} {e : Expr} {te : TE} (c : Cok L D N sc hx X) (hf : ∀ x, X.fn x = true) (h : tgB allN N sc i x = true) (he : PE X e te) (hs : swapsWith e (some (.Name x px)) pos.line X.env = pure false) : PS X (.Assign [.Name x px] e pos) (tAsg te (gName i)) := by
  obtain ⟨h1, h2⟩ := tg_at c h
  exact ps_set (by rw [c.nm]; exact c.nd) h1 h2 he hs (.inl (hf x))
theorem swL_cell {elt : Expr} {gs : List Comprehension} {scope : Scope} {q : Pos} {x : Str} {px : Pos} {line : Nat} {env : PySem.Env} (h : env.scope.names.lookup x = some .cell) : swapsWith (.ListComp elt gs scope q) (some (.Name x px)) line env = pure false := by
  have hk : (env.kindOf x == some .local) = false := by
    show (env.scope.names.lookup x == some .local) = false
    rw [h]; rfl
  unfold swapsWith
  simp only [hk, Bool.and_false, Bool.false_and]
/-- name = e, e as it is -/
theorem set_any {m : E} {i : Nat} {x : Str} {px : Pos} {e : Expr} (hc : X.calm = true) (hf : ∀ x, X.fn x = true) (c : Cok L D N sc none X) (h : tgB allN N sc i x = true) (g : Good X none D W m .And [e]) :
    JS X none D W (.set i m) (.Assign [.Name x px] e pos) ∧ JS X none D W (.setBox i m) (.Assign [.Name x px] e pos) := by
  obtain ⟨hN, hlc⟩ := tg_at c h
  have hi : i < X.N.length := lt_of_get? hN
  have nd : X.N.Nodup := by rw [c.nm]; exact c.nd
  have plain : swapsWith e (some (.Name x px)) pos.line X.env = pure false → JS X none D W (.set i m) (.Assign [.Name x px] e pos) ∧ JS X none D W (.setBox i m) (.Assign [.Name x px] e pos) := fun hs =>
    ⟨S_set (set_plain c hf h (g.e _ rfl) hs) hi fun _ _ _ q => q, S_setBox (set_plain c hf h (g.n _ rfl) hs) hi fun _ _ _ q => q⟩
  rcases g.c _ rfl with hp | ⟨⟨elt, gs, scope, q, rfl⟩, hst, hps⟩ | ⟨own, gt, it, d, e', elt, tg, iter, ifs, scope, oS, q, rfl, rfl, ji, jb, ho, hgs, jg, jt, je, hf⟩ | ⟨own, gt, it, d, own2, g2, it2, d2, e', elt, tg, iter, ifs, tg1, iter1, ifs1, scope, oS, q, rfl, rfl, ji, jb, ho, hv, hgs, hgs2, jg, jt, ji1, jg1, jt1, je, hf, hf1⟩
  · exact plain (sw_plain hp)
  · obtain ⟨b, hb⟩ := swL (elt := elt) (gs := gs) (scope := scope) (q := q) (x := x) (px := px) (line := pos.line) (env := X.env)
    rcases hlc.symm with hl | hl
    · exact plain (swL_cell hl)
    cases b with
    | false => exact plain hb
    | true => exact ⟨S_set (hps i x px pos hN hl hb) hi fun _ _ _ q => q, S_setBox (hps i x px pos hN hl hb) hi fun sg H Q q => by
        obtain ⟨w, st, env, S, R, q⟩ := q
        rw [hst] at q; exact q.elim⟩
  · obtain ⟨b, hb⟩ := swL (elt := elt) (gs := [⟨tg, iter, ifs, 0⟩]) (scope := scope) (q := q) (x := x) (px := px) (line := pos.line) (env := X.env)
    rcases hlc.symm with hl | hl
    · exact plain (swL_cell hl)
    cases b with
    | false => exact plain hb
    | true =>
      subst ho
      have ps := ps_setLc (te := tE (X.kx none) D W0 e') (tt := tT (X.kx none) D W0 d) (g := tG (X.kx none) gt) hc nd hN hl hb ji jb jg (fun s H C cl fp => PTs_of (jt s H C cl fp)) je hf
      exact ⟨S_set ps hi fun sg H Q q => comp_tE hgs _ sg H Q q, S_setBox ps hi fun sg H Q q => comp_tN hgs _ sg H Q q⟩
  · obtain ⟨b, hb⟩ := swL (elt := elt) (gs := [⟨tg, iter, ifs, 0⟩, ⟨tg1, iter1, ifs1, 0⟩]) (scope := scope) (q := q) (x := x) (px := px) (line := pos.line) (env := X.env)
    rcases hlc.symm with hl | hl
    · exact plain (swL_cell hl)
    cases b with
    | false => exact plain hb
    | true =>
      subst ho
      have ps := ps_setLc2 (te := tE (X.kx none) D W0 e') (tt := tT (X.kx none) D W0 d) (tt1 := tT (X.kx none) D W0 d2) (wi1 := tI (X.kx none) D W0 it2) (g := tG (X.kx none) gt) (g1 := tG (X.kx none) g2) hc nd hN hl hb ji jb hv jg (fun s H C cl fp => PTs_of (jt s H C cl fp)) ji1 jg1 (fun s H C cl fp => PTs_of (jt1 s H C cl fp)) je hf hf1
      exact ⟨S_set ps hi fun sg H Q q => comp2_tE hgs hgs2 _ sg H Q q, S_setBox ps hi fun sg H Q q => comp2_tN hgs hgs2 _ sg H Q q⟩
theorem many_of {m : E} {is : List Nat} {ts : List Expr} {k : Nat} {e : Expr} (hc : X.calm = true) (hf : ∀ x, X.fn x = true) (c : Cok L D N sc none X) (h : ckGs allN N sc is ts = true) (hn : kMany.notTup e = true) (g : JE X none D W m e) : JS X none D W (.setMany is m) (.Assign [.Tuple ts k p] e pos) := by
  obtain ⟨a1, a2, a3, a4⟩ := tgs_of c (fun x _ => hf x) h
  refine S_setMany (ps_asg g (G_many hc a1 a2 a3 a4) ?_ ?_ rfl) fun _ _ _ q => q
  · cases e <;> rfl
  · cases e <;> first | rfl | cases hn
theorem idx_of {o k v : E} {oe ke ve : Expr} (jo : JE X none D W o oe) (jk : JE X none D W k ke) (jv : JE X none D W v ve) (hk : notSlice ke = true) : JS X none D W (.setIdx o k v) (.Assign [.Subscript oe ke p] ve pos) := by
  refine S_setIdx (ps_asg jv (pg_sub jo jk set_list ?_) ?_ ?_ rfl)
  · intro z
    cases ke <;> first | rfl | cases hk
  · cases ve <;> rfl
  · cases ve <;> rfl
theorem ref_reads {body : S} {d : Nat} {En : Ends} {sg : L2.St} {H : Hp} {i : Nat} {ts : Addr → Value → Option Addr → TS}
    (hsub : ∀ c b, D.C.sub c d = some b → PySem.W.exmOne X.K (.ref (D.cA c)) (.ref (D.cA d)) = some b)
    (hts : ∀ a c s En sg H, D.C.rf c = some s → H a = none → (sg.length = X.N.length → sg[i]? = some (some (.ref a))) → (∃ w m, Sim (X.kx none) w m H ∧ okN (X.kx none) w En.rt (.str s, false) m) → ts a (.ref (D.cA c)) none En sg H) (hi : i < X.N.length)
    (h : tS (X.kx none) D W (.tryRef body d) En sg H) : tS (X.kx none) D (L2.wAs X.K (.ref (D.cA d)) i ts W En) body En sg H := by
  obtain ⟨w, m, env, S, R, q⟩ := h
  refine ⟨w, m, env, S, R, ?_⟩
  have q : oT (X.kx none) D W w En (match exec D.C body env m with
      | .exc c xs env m => (match D.C.sub c d with
        | some true => (match D.C.rf c with | some s => Out.ret (.str s) false m | none => .stuck)
        | some false => .exc c xs env m
        | none => .stuck)
      | o => o) := q
  cases he : exec D.C body env m with
  | exc c xs env' m' =>
    rw [he] at q
    simp only at q
    intro w' H' le S' cls dd sg' hx R'
    obtain ⟨rfl, rfl, rfl⟩ := hx
    cases hb : D.C.sub c d with
    | none => rw [hb] at q; exact q.elim
    | some b =>
      rw [hb] at q
      refine ⟨b, hsub c b hb, fun e a ha => ?_, fun e => ?_⟩
      · subst e
        simp only at q
        cases hr : D.C.rf c with
        | none => rw [hr] at q; exact q.elim
        | some s =>
          rw [hr] at q
          refine hts a c s _ _ _ hr ha (fun hl => ?_) ⟨w', m', S', later_okN _ _ _ _ le (show okN (X.kx none) w En.rt (.str s, false) m' from q)⟩
          rw [List.length_set] at hl
          exact List.getElem?_set_self (by rw [hl]; exact hi)
      · subst e
        exact (show sX (X.kx none) D W w c [] env' m' from q) w' H' le S' _ _ _ ⟨rfl, rfl, rfl⟩ R'
  | nxt env' m' => rw [he] at q; exact q
  | brk env' m' => rw [he] at q; exact q
  | cnt env' m' => rw [he] at q; exact q
  | ret t n m' => rw [he] at q; exact q
  | stuck => rw [he] at q; exact q

theorem ckS_ok : ∀ (m : S) (sts : List Stmt), ckS L N sc m sts = true → ∀ {X : Cx} {W : WX}, Cos L D N sc X → L2N.Takes X W → GoodS X D W m sts
  | .skip, sts, h, X, W, c, tk => by
    simp only [ckS, kSkip] at h
    split at h
    · exact ⟨B_nil, fun _ e _ => by cases e⟩
    · exact .one S_pass
    · cases h
  | .seq a b, sts, h, X, W, c, tk => by
    simp only [ckS, kSeq] at h
    split at h
    · rename_i hz
      have gb := ckS_ok b _ h c tk
      cases a <;> first
        | exact ⟨B_freeze gb.b, fun _ _ e => by cases e⟩
        | cases hz
    · split at h
      · obtain ⟨h, h3⟩ := band h
        obtain ⟨h1, h2⟩ := band h
        have ga := ckS_ok a _ h2 c tk
        have gb := ckS_ok b _ h3 c tk
        exact ⟨B_cons (ga.s _ rfl (by simpa using h1)) gb.b, fun _ _ e => by cases e⟩
      · cases h
  | .set i e, sts, h, X, W, c, tk => by
    simp only [ckS, kSet] at h
    split at h
    · obtain ⟨h1, h2⟩ := band h
      exact .one (set_any c.calm c.fn c.c h1 (ck_ok e _ _ _ h2 c.c tk)).1
    · cases h
  | .setBox i e, sts, h, X, W, c, tk => by
    simp only [ckS, kSet] at h
    split at h
    · obtain ⟨h1, h2⟩ := band h
      exact .one (set_any c.calm c.fn c.c h1 (ck_ok e _ _ _ h2 c.c tk)).2
    · cases h
  | .setMany is e, sts, h, X, W, c, tk => by
    simp only [ckS, kMany] at h
    split at h
    · obtain ⟨h, h3⟩ := band h
      obtain ⟨h1, h2⟩ := band h
      exact .one (many_of c.calm c.fn c.c h1 h2 ((ck_ok e _ _ _ h3 c.c tk).e _ rfl))
    · cases h
  | .setIdx o k v, sts, h, X, W, c, tk => by
    simp only [ckS, kSetIdx] at h
    split at h
    · obtain ⟨h, h4⟩ := band h
      obtain ⟨h, h3⟩ := band h
      obtain ⟨h1, h2⟩ := band h
      exact .one (idx_of ((ck_ok o _ _ _ h2 c.c tk).e _ rfl) ((ck_ok k _ _ _ h3 c.c tk).e _ rfl) ((ck_ok v _ _ _ h1 c.c tk).e _ rfl) h4)
    · cases h
  | .expr e, sts, h, X, W, c, tk => by
    simp only [ckS, kExpr] at h
    split at h
    · obtain ⟨h1, h2⟩ := band h
      exact .one (S_expr (ps_expr ((ck_ok e _ _ _ h2 c.c tk).e _ rfl) (sw_plain h1)) fun _ _ _ q => q)
    · cases h
  | .ite d a b, sts, h, X, W, c, tk => by
    simp only [ckS, kIf] at h
    split at h
    · obtain ⟨h, h3⟩ := band h
      obtain ⟨h1, h2⟩ := band h
      exact .one (S_ite ((ck_ok d _ _ _ h1 c.c tk).t _ rfl) (ckS_ok a _ h2 c tk).b (ckS_ok b _ h3 c tk).b)
    · cases h
  | .for g it body, sts, h, X, W, c, tk => by
    simp only [ckS, kFor] at h
    split at h
    · obtain ⟨h, h4⟩ := band h
      obtain ⟨h, h3⟩ := band h
      obtain ⟨h1, h2⟩ := band h
      exact .one (S_for c.po c.calm (ckI_ok it _ _ h3 c.c tk _) (G_of c.calm c.c (fun x _ => c.fn x) h1) (ckS_ok body _ h4 c tk).b (fold_of h2))
    · cases h
  | .while d body, sts, h, X, W, c, tk => by
    simp only [ckS, kWhile] at h
    split at h
    · obtain ⟨h1, h2⟩ := band h
      exact .one (S_while c.po ((ck_ok d _ _ _ h1 c.c tk).t _ rfl) (ckS_ok body _ h2 c tk).b)
    · cases h
  | .brk, sts, h, X, W, c, tk => by
    simp only [ckS, kBrk] at h
    split at h
    · exact .one S_brk
    · cases h
  | .cnt, sts, h, X, W, c, tk => by
    simp only [ckS, kCnt] at h
    split at h
    · exact .one S_cnt
    · cases h
  | .ret e, sts, h, X, W, c, tk => by
    simp only [ckS, kRet] at h
    split at h
    · exact .one (S_ret ((ck_ok e _ _ _ h c.c tk).e _ rfl))
    · unfold isNonC at h
      split at h
      · exact .one S_retN
      · cases h
    · cases h
  | .retNew e, sts, h, X, W, c, tk => by
    simp only [ckS, kRetN] at h
    split at h
    · exact .one (S_retNew ((ck_ok e _ _ _ h c.c tk).n _ rfl) fun _ _ _ q => q)
    · cases h
  | .retMove i, sts, h, X, W, c, tk => by
    simp only [ckS, kRetM] at h
    split at h
    · exact .one (S_retMove (c.c.vis h))
    · cases h
  | .raise d keep as, sts, h, X, W, c, tk => by
    simp only [ckS] at h
    obtain ⟨h, h3⟩ := band h
    obtain ⟨h1, h2⟩ := band h
    have hk : keep = false := by simpa using h1
    subst hk
    cases as with
    | nil => cases h2
    | cons a r =>
      cases r with
      | cons _ _ => cases h2
      | nil =>
        simp only [kRaise, hdE] at h3
        split at h3
        · obtain ⟨h3, h7⟩ := band h3
          obtain ⟨h3, h6⟩ := band h3
          obtain ⟨h4, h5⟩ := band h3
          obtain ⟨a1, a2, a3⟩ := glB_of c.c h4
          obtain ⟨C, B, nI, iI, bmB, e1, e2, e3, e4, e5, e6⟩ := c.c.cls _ _ (of_decide_eq_true h5)
          exact .one (S_raise c.calm tk e1 e2 e3 e4 e5 e6 a1 ((ck_ok a _ _ _ h7 c.c tk).e _ rfl) (star_of _ X.env h6) a2)
        · cases h3
  | .tryRef body d, sts, h, X, W, c, tk => by
    simp only [ckS, kTryRef] at h
    split at h
    · rename_i sb x p1 n fx p2 n' p3 p4 p5 p6 p7
      obtain ⟨h, h10⟩ := band h
      obtain ⟨h, h9⟩ := band h
      obtain ⟨h, h8⟩ := band h
      obtain ⟨h, h7⟩ := band h
      obtain ⟨h, h6⟩ := band h
      obtain ⟨h, h5⟩ := band h
      obtain ⟨h, h4⟩ := band h
      obtain ⟨h, h3⟩ := band h
      obtain ⟨h1, h2⟩ := band h
      have h5 := of_decide_eq_true h5
      subst h5
      obtain ⟨a1, a2, a3⟩ := glB_of c.c h1
      obtain ⟨b1, b2, b3⟩ := glB_of c.c h4
      obtain ⟨C, B, nI, iI, bmB, e1, e2, e3, e4, e5, e6⟩ := c.c.cls _ _ (of_decide_eq_true h2)
      have hl : X.env.kindOf n' = some .local := by
        show X.env.scope.names.lookup n' = _
        rw [c.c.sc]; exact of_decide_eq_true h7
      obtain ⟨z, hz, ez⟩ := List.any_eq_true.mp h6
      have ez : z = n' := of_decide_eq_true ez
      subst ez
      obtain ⟨j, hj⟩ := List.getElem?_of_mem hz
      have hj : X.N[j]? = some z := by rw [c.c.nm]; exact hj
      have nd : X.N.Nodup := by rw [c.c.nm]; exact c.c.nd
      have ro := c.rfs fx (of_decide_eq_true h3) b1
      refine .one (PS.imp (L2N.ps_try_as (Wout := W) (c := .ref C) (tb := fun W => tS (X.kx none) D W body) c.hs c.hf nd hj hl ⟨a1, a2, .inl e4⟩ tk (fun W' pn xe tk' po' => (ckS_ok body _ h10 (c.tr pn xe po') tk').b)
        fun a oe cls d' pn zn fs => pss_one (ro j z p2 p3 p4 p5 a oe cls d' pn hj hl (by simpa using h8) (by simpa using h9) zn fs)) fun En sg H q => ?_)
      rw [← e1]
      refine ref_reads (i := j) (fun c' b hb => c.sub x d (of_decide_eq_true h2) c' b hb) (fun a c' s En sg H r1 r2 r3 r4 => ⟨c', s, rfl, rfl, r1, r3, r2, r4⟩) (lt_of_get? hj) q
    · cases h
  | .setPar .., _, h, _, _, _, _ => by simp only [ckS] at h; cases h
  | .setAttr .., _, h, _, _, _, _ => by simp only [ckS] at h; cases h
  | .setAttrBox .., _, h, _, _, _, _ => by simp only [ckS] at h; cases h
  | .tryx .., _, h, _, _, _, _ => by simp only [ckS] at h; cases h
  | .freeze _, _, h, _, _, _, _ => by simp only [ckS] at h; cases h
end
end MP
end

section
set_option Elab.async false
set_option Elab.async false
set_option linter.all false
set_option maxRecDepth 100000
/-! MP16: defs keep what the evaluator says. -/
namespace MP
open PySem PySem.Spec PyProof.Rows L2
section
variable {K : Kx} {w : Wd} {m : Store} {H : Hp} {k : Nat}
/-! ### what a def leaves in the store is forgotten -/
def Wd.cut (w : Wd) (k : Nat) : Wd := ⟨w.Z, w.rho.take k, w.Fr⟩
mutual
theorem Rep.low (k : Nat) : ∀ {t : T} {v : V}, Rep K w t v → T.upTo k t = true → Rep K (w.cut k) t v
  | _, _, .non, _ => .non
  | _, _, .bl b, _ => .bl b
  | _, _, .int i, _ => .int i
  | _, _, .str s, _ => .str s
  | _, _, .lst h r, u => .lst h (Reps.low k r (by simpa [T.upTo] using u))
  | _, _, .tup h r, u => .tup h (Reps.low k r (by simpa [T.upTo] using u))
  | .obj n, .ref a, .obj h, u => .obj (show (w.rho.take k)[n]? = some a by
      have u : n < k := by simpa [T.upTo] using u
      rw [List.getElem?_take_of_lt u]; exact h)
  | _, _, .scr h, _ => .scr h
  | _, _, .exc h, _ => .exc h
theorem Reps.low (k : Nat) : ∀ {ts : List T} {vs : List V}, Reps K w ts vs → T.upTos k ts = true → Reps K (w.cut k) ts vs
  | _, _, .nil, _ => .nil
  | _, _, .cons h r, u => by
    have u : (T.upTo k _ && T.upTos k _) = true := u
    obtain ⟨u1, u2⟩ := band u
    exact .cons (Rep.low k h u1) (Reps.low k r u2)
end
end
/-! ### cells as a frame -/
open Classical in
/-- all that must stand -/
noncomputable def allFr (w : Wd) (m : Store) (H : Hp) : Hp := fun x => if ∃ n, w.rho[n]? = some x ∧ Live m n then H x else w.Fr x
theorem allFr_live {w : Wd} {m : Store} {H : Hp} {n : Nat} {x : Addr} (h : w.rho[n]? = some x) (hl : Live m n) : allFr w m H x = H x := if_pos ⟨n, h, hl⟩
theorem Sim.framed {K K' : Kx} {w : Wd} {m : Store} {H : Hp} (S : Sim K w m H) : Sim K' ⟨w.Z, [], allFr w m H⟩ [] H := by
  refine ⟨S.z, rfl, fun i j a e => by simp at e, fun n a e => by simp at e, fun n a c e => by simp at e, fun a o e => ?_⟩
  have e : allFr w m H a = some o := e
  unfold allFr at e
  split at e
  · rename_i h
    obtain ⟨n, h1, h2⟩ := h
    exact ⟨e, (S.there n a h1 h2).1⟩
  · exact S.fr a o e
theorem Sim.unframed {K K' : Kx} {w w' : Wd} {m m' : Store} {H H' : Hp} (S : Sim K w m H) (le : Wd.le ⟨w.Z, [], allFr w m H⟩ w') (S' : Sim K' w' m' H') : Sim K ⟨w'.Z, w.rho, w.Fr⟩ m H' ∧ w.le ⟨w'.Z, w.rho, w.Fr⟩ := by
  have live : ∀ {n x}, w.rho[n]? = some x → Live m n → ∀ o, H x = some o → H' x = some o ∧ w'.Z x = none := fun {n x} h hl o e => S'.fr x o (by rw [le.f]; show allFr w m H x = _; rw [allFr_live h hl]; exact e)
  refine ⟨⟨S'.z, S.len, S.inj, fun n a h hl => ?_, fun n a c h e => ?_, fun a o e => ?_⟩, le.z, List.prefix_refl _, rfl⟩
  · obtain ⟨h1, h2, o, h3⟩ := S.there n a h hl
    obtain ⟨q1, q2⟩ := live h hl o h3
    exact ⟨q2, h2, o, q1⟩
  · have r := S.cells n a c h e
    cases c with
    | dead => trivial
    | lst ts =>
      have le0 : w.le0 ⟨w'.Z, w.rho, w.Fr⟩ := ⟨le.z, List.prefix_refl _⟩
      exact (r.at fun o z => (live h ⟨_, e, by simp⟩ o z).1).mono0 le0
    | dct _ _ => exact r
    | ins _ _ => exact r
  · refine S'.fr a o ?_
    rw [le.f]
    show allFr w m H a = _
    unfold allFr
    split
    · exact (S.fr a o e).1
    · exact e
theorem cut0_le {w w' : Wd} (z : Sub w.Z w'.Z) : (w.cut 0).le0 w' := ⟨z, by show w.rho.take 0 <+: w'.rho; rw [List.take_zero]; exact List.nil_prefix⟩
theorem bare_mono {K : Kx} {w : Wd} (w' : Wd) (z : Sub w.Z w'.Z) {t : T} {v : V} (r : Rep K w t v) (u : T.upTo 0 t = true) : Rep K w' t v := by
  have q : Rep K (w.cut 0) t v := Rep.low 0 r u
  exact Rep.mono0 (cut0_le z) q
theorem bares_mono {K : Kx} {w : Wd} (w' : Wd) (z : Sub w.Z w'.Z) {t : List T} {v : List V} (r : Reps K w t v) (u : T.upTos 0 t = true) : Reps K w' t v := by
  have q : Reps K (w.cut 0) t v := Reps.low 0 r u
  exact Reps.mono0 (cut0_le z) q
theorem okN_alone {K : Kx} {w : Wd} {m m1 : Store} {H : Hp} {Q : VK} {t : T} {new : Bool} (S : Sim K w m H) (hu : T.upTo 0 t = true) (h : okN K w Q (t, new) m) : okN K ⟨w.Z, [], allFr w m H⟩ Q (t, new) m1 := by
  intro w' H' le S' v rv
  obtain ⟨S2, le2⟩ := S.unframed le S'
  refine h _ H' le2 S2 v ?_
  cases new with
  | false => exact bare_mono (w := w') ⟨w'.Z, w.rho, w.Fr⟩ Sub.refl rv hu
  | true =>
    obtain ⟨ts, a, vs, rfl, rfl, A⟩ := rv
    have fr : allFr w m H a = none := by
      have := A.f
      rw [le.f] at this; exact this
    refine ⟨ts, a, vs, rfl, rfl, S2, A.at_, A.z, fun n e l => ?_, ?_, bares_mono (w := w') ⟨w'.Z, w.rho, w.Fr⟩ Sub.refl A.rep (by simpa [T.upTo] using hu)⟩
    · have e : w.rho[n]? = some a := e
      obtain ⟨_, _, o, e2⟩ := S.there n a e l
      rw [allFr_live e l, e2] at fr; cases fr
    · cases e : w.Fr a with
      | none => rfl
      | some o =>
        have z := S.fr a o e
        unfold allFr at fr
        split at fr
        · rw [z.1] at fr; cases fr
        · rw [e] at fr; cases fr
/-! ### a def's start and end -/
theorem start_env {K : Kx} {w : Wd} {f : Fn} {N : List Str} {ts : List T} {vs : List V} (r : Reps K w ts vs) : EnvR K w (MP.start f ts) (L2.start N vs) := by
  intro i t e
  unfold MP.start Env.get at e
  have hi : i < ts.length := by
    by_cases q : i < ts.length
    · exact q
    · rw [List.getElem?_append_right (by simpa using q), List.getElem?_replicate] at e
      split at e <;> simp at e
  rw [List.getElem?_append_left (by simpa using hi), List.getElem?_map, List.getElem?_eq_getElem hi] at e
  simp only [Option.map_some, Option.bind_some, id, Option.some.injEq] at e
  obtain ⟨v, hv, rv⟩ := r.get (i := i) (t := t) (by rw [List.getElem?_eq_getElem hi, e])
  refine ⟨v, ?_, rv⟩
  unfold L2.start
  have hl : i < vs.length := by rw [← r.length]; exact hi
  rw [List.getElem?_append_left (by simpa using hl), List.getElem?_map, hv]
  rfl
/-- what is wanted behind the body -/
theorem body_reads {K : Kx} {D : Sd} {f : Fn} {N : List Str} {ts : List T} {vs : List V} {w : Wd} {m : Store} {H : Hp} {Q : VK} {E : XK} (S : Sim K w m H) (r : Reps K w ts vs)
    (h : (finish (exec D.C f.body (MP.start f ts) m)).to (okN K w Q) (fun c xs m' => aft K w m' fun w' H' => ∀ cls d, ExcR D c xs cls d → E cls d H')) :
    tS K D (fun cls d _ H => E cls d H) f.body { nx := fun _ H' => Q .non H', rt := Q } (L2.start N vs) H := by
  refine ⟨w, m, MP.start f ts, S, start_env r, ?_⟩
  cases he : exec D.C f.body (MP.start f ts) m with
  | nxt env m' =>
    rw [he] at h
    exact fun w' H' le S' sg' _ => (show okN K w Q (.non, false) m' from h) w' H' le S' .non .non
  | ret t new m' => rw [he] at h; exact h
  | exc c xs env m' =>
    rw [he] at h
    exact fun w' H' le S' cls d sg' ex _ => (show aft K w m' fun w' H' => ∀ cls d, ExcR D c xs cls d → E cls d H' from h) w' H' le S' cls d ex
  | brk env m' => rw [he] at h; exact h.elim
  | cnt env m' => rw [he] at h; exact h.elim
  | stuck => rw [he] at h; exact h.elim
/-- .. run over an empty store -/
theorem alone_reads {K : Kx} {D : Sd} {f : Fn} {N : List Str} {ts : List T} {vs : List V} {w : Wd} {m : Store} {H : Hp} {Q : VK} {E : XK} (S : Sim K w m H) (r : Reps K w ts vs) (hu : T.upTos 0 ts = true)
    (h : (alone m (finish (exec D.C f.body (MP.start f ts) []))).to (okN K w Q) (fun c xs m' => aft K w m' fun w' H' => ∀ cls d, ExcR D c xs cls d → E cls d H')) :
    tS K D (fun cls d _ H => E cls d H) f.body { nx := fun _ H' => Q .non H', rt := Q } (L2.start N vs) H := by
  refine body_reads (S.framed (K' := K)) (bares_mono (w := w) ⟨w.Z, [], allFr w m H⟩ Sub.refl r hu) ?_
  cases he : finish (exec D.C f.body (MP.start f ts) []) with
  | ok a m1 =>
    rw [he] at h
    simp only [alone] at h
    split at h
    · rename_i ha; exact okN_alone S ha h
    · exact h.elim
  | exc c xs m1 =>
    rw [he] at h
    simp only [alone] at h
    split at h
    · intro w' H' le S' cls d ex
      obtain ⟨S2, le2⟩ := S.unframed le S'
      exact (show aft K w m fun w' H' => ∀ cls d, ExcR D c xs cls d → E cls d H' from h) _ H' le2 S2 cls d ex
    · exact h.elim
  | stuck => rw [he] at h; exact h.elim

/-! ### all defs -/
structure Df where
  name : Str
  params : Arguments
  body : List Stmt
  scope : Scope
  N : List Str
  ps : List Str
def Df.ok (L : Lk) (f : Fn) (d : Df) : Prop := ckS L d.N d.scope f.body d.body = true ∧ FnScope d.N d.ps d.scope ∧ f.np = d.ps.length
def Prog.at (M : Prog) (cA : Nat → Addr) (n : Nat) : Sd := ⟨⟨callN M n, M.fuel, M.sub, M.meth, M.ini, M.rf⟩, cA⟩
/-- what the module is -/
structure Gok (P : Program) (w : World) (K : PySem.W.Frag) (mg : Str → Option Value) (base : Heap) (L : Lk) (M : Prog) (cA fA : Nat → Addr) (fD : Nat → FuncData) (defs : List Df) : Prop where
  free : ∀ x ∈ L.free, mg x = none
  cst : ∀ x t, L.cst.lookup x = some t → ∃ v u, mg x = some u ∧ RelV v u ∧ ∀ K w, Rep K w t v
  cls : ∀ x c, L.cls.lookup x = some c → ∃ B newId initId bmB, ExcBaseFacts B newId initId bmB ∧ PySem.W.excIn K (cA c) bmB newId = true ∧ mg x = some (.ref (cA c)) ∧ PySem.W.keepIn K (.ref (cA c)) = true ∧ PySem.W.subIn K (.ref (cA c)) (.type "BaseException") = some true ∧ PySem.W.typeIn K (.ref (cA c)) = some (.type "type")
  sub : ∀ x d, L.cls.lookup x = some d → ∀ c b, M.sub c d = some b → PySem.W.exmOne K (.ref (cA c)) (.ref (cA d)) = some b
  ref : ∀ x, L.rfn = some x → ∀ (X : Cx) (D : Sd), X.prog = P → X.w = w → X.K = K → X.mg = mg → X.base = base → Room 3 X.A → D.cA = cA → D.C.rf = M.rf → Gl X x → RefOk X D x
  cold : L.hot = false
  len : defs.length = M.fns.length
  def_ : ∀ (i : Nat) (d : Df), defs[i]? = some d → ∃ dvs kws, FunD K d.name d.name d.params d.body d.scope dvs kws (fA i) (fD i)
  fns : ∀ x i df, L.fns.lookup x = some (i, df) → ∃ d, defs[i]? = some d ∧ mg x = some (.ref (fA i)) ∧ PySem.W.keepIn K (.ref (fA i)) = true ∧
    ∀ n, n ≤ df.length → ∃ dvs dvl, Binds K (fD i) d.ps dvl ∧ Vals dvs dvl ∧ ∀ w, Reps ⟨K, none⟩ w (df.drop (df.length - n)) dvs
  ok : ∀ (i : Nat) (d : Df) (f : Fn), defs[i]? = some d → M.fns[i]? = some f → Df.ok L f d
theorem all_ok {P : Program} {w : World} {K : PySem.W.Frag} {mg : Str → Option Value} {base : Heap} {L : Lk} {M : Prog} {cA fA : Nat → Addr} {fD : Nat → FuncData} {defs : List Df} (G : Gok P w K mg base L M cA fA fD defs) :
    ∀ (n i : Nat) (d : Df), defs[i]? = some d → FnOk P w K mg base (L2N.CX P w) (n + 3) (fA i) (fD i) d.ps (spT ⟨K, none⟩ (M.at cA n) i)
  | 0, i, d, hd => ⟨fun vs H Q E h => by obtain ⟨_, _, _, _, _, h⟩ := h; exact h.elim, fun A outer s H args us vs Q E _ _ _ _ h => by obtain ⟨_, _, _, _, _, h⟩ := h; exact h.elim⟩
  | n + 1, i, d, hd => by
    have ih := all_ok G n
    obtain ⟨dvs, kws, F⟩ := G.def_ i d hd
    obtain ⟨f, hf⟩ : ∃ f, M.fns[i]? = some f := by
      have : i < M.fns.length := by rw [← G.len]; exact lt_of_get? hd
      exact ⟨_, List.getElem?_eq_getElem this⟩
    obtain ⟨k1, k2, k3⟩ := G.ok i d f hd hf
    have step : ∀ ts m, callN M (n + 1) i ts m = (if ts.length = f.np then (if f.gc then (if T.upTos 0 ts then alone m (finish (exec (M.at cA n).C f.body (MP.start f ts) [])) else .stuck) else finish (exec (M.at cA n).C f.body (MP.start f ts) m)) else .stuck) := fun ts m => by
      show (match M.fns[i]? with | none => _ | some f => _) = _
      rw [hf]
      rfl
    refine F.ok k2 (fun vs H Q E h => ?_) fun cdv A outer s H vs Q E hr h => ?_
    · obtain ⟨w', m, ts, S, r, q⟩ := h
      rw [show (M.at cA (n + 1)).C.call i ts m = _ from step ts m] at q
      split at q
      · rename_i hl; rw [← r.length, hl, k3]
      · exact q.elim
    · obtain ⟨w', m, ts, S, r, q⟩ := h
      rw [show (M.at cA (n + 1)).C.call i ts m = _ from step ts m] at q
      split at q
      · refine ⟨tS ⟨K, none⟩ (M.at cA n) (fun cls d _ H => E cls d H) f.body, ?_, ?_⟩
        rotate_left
        · split at q
          · split at q
            · rename_i hu; exact alone_reads S r hu q
            · exact q.elim
          · exact body_reads S r q
        have ck : Cok L (M.at cA n) d.N d.scope none (cxOf (L2N.CX P w) P w K mg base d.N d.name d.scope (fA i) cdv A outer s H E) := by
          refine ⟨rfl, k2.nd, rfl, fun _ => ⟨rfl, rfl⟩, by have := hr.un; show (A.deeper _).units + 65 < _; omega, G.free, G.cst, fun x j df e => ?_, fun x c e => ?_, fun _ _ _ e => (by cases e), (fun _ => ⟨rfl, rfl⟩), fun e => (by rw [G.cold] at e; cases e)⟩
          · obtain ⟨d', h1, h2, h3, h4⟩ := G.fns x j df e
            exact ⟨n + 3, fA j, fD j, d'.ps, ih j d' h1, hr, h2, h3, h4⟩
          · obtain ⟨B, nI, iI, bm, h1, h2, h3, h4, h5, h6⟩ := G.cls x c e
            exact ⟨cA c, B, nI, iI, bm, rfl, h1, h2, h3, h4, raises_own h5 h6⟩
        have cs : Cos L (M.at cA n) d.N d.scope (cxOf (L2N.CX P w) P w K mg base d.N d.name d.scope (fA i) cdv A outer s H E) := by
          refine ⟨ck, rfl, fun _ => rfl, passes_of rfl, ?_, rfl, rfl, G.sub, fun x hx hg => G.ref x hx _ _ rfl rfl rfl rfl rfl (hr.mono (by omega)) rfl rfl hg⟩
          show (if d.scope.kind.isAnnotationScope then ScopeKind.function else d.scope.kind) = _
          rw [k2.kind]; rfl
        exact (ckS_ok f.body d.body k1 cs (L2N.takes_of rfl rfl rfl rfl)).b
      · exact q.elim
end MP
end

section
set_option Elab.async false
set_option Elab.async false
set_option linter.all false
set_option maxRecDepth 100000
set_option maxHeartbeats 0
/-! MP17: a list comprehension while an exception is handled. -/
namespace MP
open PySem PySem.Spec PyProof.Rows L2
/-- a block's context, the handled exception pinned -/
abbrev hotBlk (X : Cx) (s : Shared) (H : Hp) (scope : Scope) (cenv : PySem.Env) (fp : List Addr) (p : Addr × Obj) : Cx := (X.blk s H scope cenv fp).tr [p] (fun _ _ => False)
theorem hotBlk_start {X : Cx} {s0 s : Shared} {H0 H : Hp} {scope : Scope} {cenv : PySem.Env} {fp : List Addr} {p : Addr × Obj} {sg : L2.St} (I : Inv (X.blk s0 H0 scope cenv fp) [] sg H s)
    (hp : s.heap.get? p.1 = some p.2 ∧ H p.1 = none ∧ p.1 ≠ cenv.locals ∧ p.1 ∉ frs X.stack ∧ ∀ v, p.2.data ≠ .cell v) : Inv (hotBlk X s0 H0 scope cenv fp p) [] sg H s := by
  have I1 : Inv (X.blk s0 H0 scope cenv fp) [p] sg H s := I.pins_of fun q hq => by
    rw [List.mem_singleton.mp hq]; exact hp
  exact I1.toTry _
section
variable {X : Cx} {pins : List (Addr × Obj)} {s : Shared} {sg : L2.St} {H : Hp} {Q : VK} {elt tg iter : Expr} {ifs : List Expr} {scope : Scope} {own : List (Str × Nat)} {pos pos' : Pos} {wi : TI} {g : TG} {tt : TT} {te : TE}
theorem hot_core {use : Option (Value → Sem Unit)} {Qf : Value → Shared → Prop} {p : Addr × Obj} (hot : L2H.Hot1 X.A p) (hpn : p ∈ X.pn) (hN : X.N.Nodup) (I : Inv X pins sg H s) (hi : L2H.PIH X tg iter wi) (ok : BlkOk X.N X.env.scope scope own)
    (hg : ∀ (s : Shared) (H : Hp) (C : Addr) (cl : List (Str × Addr)) (fp : List Addr), PG (hotBlk X s H scope (compEnvC scope cl C X.env) fp p) tg g)
    (ht : ∀ (s : Shared) (H : Hp) (C : Addr) (cl : List (Str × Addr)) (fp : List Addr), PTs (hotBlk X s H scope (compEnvC scope cl C X.env) fp p) ifs tt)
    (he : ∀ (s : Shared) (H : Hp) (C : Addr) (cl : List (Str × Addr)) (fp : List Addr), PE (hotBlk X s H scope (compEnvC scope cl C X.env) fp p) elt te) (hs : ∀ x, foldedSetIterable iter X.env x = pure x)
    (h : tLc wi g tt te (own.map (·.2)) sg H Q)
    (hend : ∀ d C s' m H', Inv X pins sg H' s' → Q (.ref d) H' → s'.heap.Ns C m → FpOk X pins H' C → compPost (model X.prog X.w) X.A X.xe use Qf (.ref d) C (.ok .next) s') :
    wpAny (model X.prog X.w) X.A (comprehension (.ListComp elt [⟨tg, iter, ifs, 0⟩] scope pos) scope X.env pos' (newList []) false (PySem.eval iter X.env) use) Qf X.xe s := by
  have clo : closureFor scope X.env = pure (cloFrom X.env.cells scope.names []) := closure_ok fun y hy e => (ok.free y hy e).elim (fun k => I.ok.has _ (.inl k)) fun k => I.ok.has _ (.inr k)
  refine wpAny_comprehension_free (use := use) rfl hs clo ok.kind (fun y hy e => by rw [ok.uniq y hy, e]) (thn (hi.run pins s sg H _ I h) fun xv s1 hx => thn hx fun itv s2 h2 => ?_)
  obtain ⟨it, fp, tn, J, H2, rfl, I2, turn, at0, fp2, want⟩ := h2
  refine wpAny_newObj_type (newEnv_comp ?_) (by show 0 ≤ sizeLine; decide)
  -- the new list stands at d, in the state s3
  obtain ⟨d, hd⟩ : ∃ d, d = s2.heap.objs.size := ⟨_, rfl⟩
  obtain ⟨s3, hs3⟩ : ∃ s3 : Shared, s3 = { s2 with heap := s2.heap.push { cls := .type "list", data := .seq ([] : List Value).toArray } } := ⟨_, rfl⟩
  rw [← hs3, ← hd]
  have kept : ∀ b o, s2.heap.get? b = some o → s3.heap.get? b = some o := fun b o e => by rw [hs3]; exact Heap.get?_push_of_some _ e
  have I3 : Inv X pins sg (upd H2 d (.lst [])) s3 := by
    have := I2.laid (a := d) (o := .lst []) (h' := s2.heap.push { cls := .type "list", data := .seq ([] : List Value).toArray }) (t' := s2.toks) (fun b o e => Heap.get?_push_of_some _ e) (Nat.le_of_eq hd.symm) ⟨Nat.zero_le _, [], 0, .nil, by rw [hd]; exact Heap.get?_push_size _ rfl⟩
    rw [hs3]; exact this
  obtain ⟨W, ⟨m0, w0⟩, step⟩ := want d (I2.hok.fresh (Nat.le_of_eq hd.symm))
  obtain ⟨H3, hH3⟩ : ∃ H3, H3 = upd H2 d (.lst []) := ⟨_, rfl⟩
  rw [← hH3] at I3 w0
  have szs : s3.heap.objs.size = d + 1 := by rw [hs3, hd]; exact Heap.size_push ..
  have low : ∀ b ∈ fp, b < d := fun b hb => by
    obtain ⟨o, e, _⟩ := turn.obj _ _ at0 b hb
    rw [hd]; exact Heap.lt_size e
  have fp3 : ∀ b ∈ fp, FpOk X pins H3 b ∧ b < s3.heap.objs.size := fun b hb => by
    have := low b hb
    refine ⟨⟨?_, (fp2 b hb).2⟩, by rw [szs]; exact Nat.lt_succ_of_lt this⟩
    rw [hH3, upd_ne (Nat.ne_of_lt this)]
    exact (fp2 b hb).1
  -- the block's frame
  have I4 := block_start I3 ok hN fp3
  obtain ⟨cl, hcl⟩ : ∃ cl, cl = cellsFrom (s3.heap.objs.size + 1) scope.names (cloFrom X.env.cells scope.names []) := ⟨_, rfl⟩
  obtain ⟨s4, hs4⟩ : ∃ s4 : Shared, s4 = { s3 with heap := pushCells (s3.heap.push { cls := .type "dict", data := .dict #[] }) scope.names } := ⟨_, rfl⟩
  rw [← hcl, ← hs4] at I4
  have kept4 : ∀ b o, s3.heap.get? b = some o → s4.heap.get? b = some o := fun b o e => by rw [hs4]; exact pushCells_keeps _ _ _ _ (Heap.get?_push_of_some _ e)
  have P := I3.pin p (List.mem_append_left _ hpn)
  have I5 : Inv (hotBlk X s3 H3 scope (compEnvC scope cl s3.heap.objs.size X.env) fp p) [] (L2.wipe sg (own.map (·.2))) H3 s4 := by
    refine hotBlk_start I4 ⟨kept4 _ _ P.1, P.2.1, ?_, fun hm => (List.mem_cons.mp (I3.stkSub p.1 hm)).elim P.2.2.1 P.2.2.2.1, P.2.2.2.2⟩
    exact Nat.ne_of_lt (Heap.lt_size P.1)
  have hc : L2H.HotC (hotBlk X s3 H3 scope (compEnvC scope cl s3.heap.objs.size X.env) fp p) := ⟨p, hot, List.mem_singleton.mpr rfl⟩
  have at4 : tn 0 s4.heap := turn.keep _ _ _ (turn.keep _ _ _ at0 fun b _ o e => kept b o e) fun b _ o e => kept4 b o e
  show codeAny _ _ (.compStart (.ListComp elt [⟨tg, iter, ifs, 0⟩] scope pos) 0 (.ref it) (.ref d) (compEnvC scope (cellsFrom (s3.heap.objs.size + 1) scope.names (cloFrom X.env.cells scope.names [])) s3.heap.objs.size X.env)) (compPost (model X.prog X.w) X.A X.xe use Qf (.ref d) s3.heap.objs.size) { s3 with heap := pushCells (s3.heap.push { cls := .type "dict", data := .dict #[] }) scope.names }
  rw [← hcl, ← hs4]
  have pg := hg s3 H3 s3.heap.objs.size cl fp
  have pt := ht s3 H3 s3.heap.objs.size cl fp
  have pe := he s3 H3 s3.heap.objs.size cl fp
  have ce_l : (compEnvC scope cl s3.heap.objs.size X.env).locals = s3.heap.objs.size := rfl
  obtain ⟨ce, hce⟩ : ∃ ce, ce = compEnvC scope cl s3.heap.objs.size X.env := ⟨_, rfl⟩
  rw [← hce] at I5 hc pg pt pe ce_l ⊢
  -- what stays true of the iterator through the loop
  have stays : ∀ {sg' : L2.St} {H' : Hp} {s' : Shared}, Inv (hotBlk X s3 H3 scope ce fp p) [] sg' H' s' → (∀ b ∈ fp, H' b = none) → ∀ b ∈ fp, FpOk (hotBlk X s3 H3 scope ce fp p) [] H' b := fun {sg' H' s'} J' hn b hb => by
    refine ⟨hn b hb, (J'.ok.exf b hb).1, J'.ok.exfs b hb, .inl hb, fun x c e => (J'.ok.exf b hb).2 x c e, fun q hq e => ?_⟩
    have hq : q = p := by simpa using (show q ∈ [p] ++ ([] : List (Addr × Obj)) from hq)
    rw [hq] at e
    exact (fp3 b hb).1.2.2.2.2.2 p (List.mem_append_left _ hpn) e
  have loop : codeAny (model X.prog X.w) X.A (.compLoop (.ListComp elt [⟨tg, iter, ifs, 0⟩] scope pos) 0 (.ref it) (.ref d) ce) (compPost (model X.prog X.w) X.A X.xe use Qf (.ref d) s3.heap.objs.size) s4 := by
    refine compLoop_any (fun n s' => ∃ i H', Inv (hotBlk X s3 H3 scope ce fp p) [] (L2.wipe sg (own.map (·.2))) H' s' ∧ tn i s'.heap ∧ (∀ b ∈ fp, H' b = none) ∧ W i n H') ?_ m0 ⟨0, H3, I5, at4, fun b hb => (fp3 b hb).1.1, w0⟩
    rintro n s5 ⟨i, H5, J5, at5, n5, w5⟩
    rcases step i n H5 w5 with ⟨stop, qq⟩ | ⟨go, Nx, hNx, yl⟩
    · refine thnF (turn.done (hotBlk X s3 H3 scope ce fp p) rfl rfl rfl hc i [] s5 _ H5 (fun _ _ => False) J5 (stays J5 n5) at5 stop) fun r s6 ⟨hr, J6⟩ => ?_
      subst hr
      have I7 : Inv X pins sg H5 s6 := I3.call' (ch := fp) J6.os J6.base J6.hok J6.bare fun b hb => ⟨(fp3 b hb).1.2.2.2.1, (fp3 b hb).1.2.1, (fp3 b hb).1.2.2.2.2.1, (fp3 b hb).1.2.2.2.2.2⟩
      obtain ⟨mm, hn, _⟩ := J6.loc
      have hn : s6.heap.Ns ce.locals mm := hn
      have nC : H5 ce.locals = none := J6.free
      rw [ce_l] at hn nC
      exact hend d s3.heap.objs.size s6 mm H5 I7 qq hn (I3.fpOk (Nat.le_refl _) nC)
    · refine thnF (turn.item (hotBlk X s3 H3 scope ce fp p) rfl rfl rfl hc i [] s5 _ H5 (fun _ _ => False) J5 (stays J5 n5) at5 go) fun r s6 ⟨u, hr, h6⟩ => ?_
      subst hr
      refine thnF h6 fun _ s7 ⟨x, H7, J7, r7, y7, at7, n7⟩ => ?_
      have J8 := J7.pinned (stays J7 n7) (turn.obj _ _ at7)
      refine thnF (pg.run _ s7 _ H7 x u _ J8 r7 (yl x H7 y7)) fun _ s8 ⟨sg8, H8, J9, hw8, q8⟩ => ?_
      refine thnF (pt.run _ s8 sg8 H8 _ J9 q8) fun b s9 ⟨H9, J10, q9⟩ => ?_
      -- to the next turn
      have next : ∀ {s' : Shared} {H' : Hp}, Inv (hotBlk X s3 H3 scope ce fp p) ([] ++ pinsAt fp s7.heap) sg8 H' s' → Nx H' → ∃ k, k < n ∧ ∃ i H', Inv (hotBlk X s3 H3 scope ce fp p) [] (L2.wipe sg (own.map (·.2))) H' s' ∧ tn i s'.heap ∧ (∀ b ∈ fp, H' b = none) ∧ W i k H' := fun {s' H'} K nx => by
        obtain ⟨k, hk, w'⟩ := hNx H' nx
        have pinned : ∀ b ∈ fp, ∀ o, s7.heap.get? b = some o → s'.heap.get? b = some o ∧ H' b = none := fun b hb o e =>
          have z := K.pin (b, o) (List.mem_append_right _ (List.mem_append_right _ (mem_pinsAt hb e)))
          ⟨z.1, z.2.1⟩
        refine ⟨k, hk, i + 1, H', (K.unpinned (pins := [])).weak (by rw [← hw8, wipe_length]) (fun j v e => ?_), turn.keep _ _ _ at7 fun b hb o e => (pinned b hb o e).1, fun b hb => ?_, w'⟩
        · rw [← hw8] at e; exact (wipe_some e).1
        · obtain ⟨o, e, _⟩ := turn.obj _ _ at7 b hb
          exact (pinned b hb o e).2
      cases b with
      | false => simp only [Bool.false_eq_true, if_false] at q9 ⊢; exact next J10 q9
      | true =>
        simp only [if_true] at q9 ⊢
        refine thnF (pe.run _ s9 sg8 H9 _ J10 q9) fun z s10 ⟨yv, H10, J11, r11, acc, hd10, hz10, nx⟩ => ?_
        exact app_ok (X := hotBlk X s3 H3 scope ce fp p) J11 hd10 hz10 r11 fun s11 J12 => next J12 nx
  exact codeAny_compStart_list loop (turn.self X.A 0 _ _ _ at4 loop)
end
end MP
end

section
set_option Elab.async false
set_option Elab.async false
set_option linter.all false
set_option maxRecDepth 100000
set_option maxHeartbeats 0
/-! MP18: the def that tells a refused deed's kind: statements while an exception is handled. -/
namespace MP
open PySem PySem.Spec PyProof.Rows L2
theorem call_isH {X : Cx} {p : Addr × Obj} {C : Addr} (hp : p ∈ X.pn) (ec : ExcC X.K C) (hz : Zc (.ref C) none p.2) (hf : ∃ vs, p.2.data = .fields vs) : CallR X (.builtin "isinstance") (rIsE X.K C p.1) := by
  rintro pins s sg H xs us Q I r ⟨c, cv, b, rfl, hcv, e, q⟩
  obtain ⟨u1, u2, rfl, r1, r2⟩ : ∃ u1 u2, us = [u1, u2] ∧ RelV (.ref p.1) u1 ∧ RelV c u2 := by
    cases r with
    | cons a r => cases r with
      | cons b r => cases r; exact ⟨_, _, rfl, a, b⟩
  cases r1
  rw [hcv u2 r2]
  have inst : PySem.W.InstAt s.heap p.1 p.2 C none := by
    have hget := (I.pin p (List.mem_append_left _ hp)).1
    obtain ⟨a, c0, d0, dt, sl⟩ := p
    obtain ⟨vs, hv⟩ := hf
    obtain ⟨h1, h2⟩ := hz
    simp only at h1 h2 hv
    subst h1 h2 hv
    exact ⟨hget, rfl, rfl, trivial⟩
  exact PySem.W.kia_one (PySem.W.handS_kitx_exc ec.hg ec.hk ec.hs ec.hd ec.ha ec.hn ec.ht ec.hm) I.kIn inst e (fun z => nomatch z) fun tk => ⟨.bl b, H, I.kept (t' := tk) fun _ _ z => z, rfl, q⟩
section
variable {L : Lk} {D : Sd} {N : List Str} {sc scope : Scope} {hx : Option (Addr × Nat × List T)} {X : Cx} {W : WX} {pos p : Pos}
theorem PIH.imp {tg e : Expr} {t t' : TI} (h : L2H.PIH X tg e t) (i : ∀ sg H R, t' sg H R → t sg H R) : L2H.PIH X tg e t' := ⟨fun pins s sg H R I q => h.run pins s sg H R I (i _ _ _ q)⟩
theorem I_rngH {a : E} {tg ea : Expr} (hg : Gl X "range") (hm : X.mg "range" = none) (ha : JA X hx D W (.cons a .nil) [ea]) (hs : starEach [ea] X.env = [(false, PySem.eval ea X.env)]) : L2H.PIH X tg (.Call (.Name "range" p) [ea] [] pos) (tI (X.kx hx) D W (.rng a)) := by
  refine PIH.imp (L2H.pi_range1H hg hm ha hs) fun sg H R ⟨w, st, env, S, E', q⟩ => ?_
  refine ⟨w, st, env, S, E', ?_⟩
  rw [evals1]
  cases he : eval D.C a env st with
  | stuck => simp only [evalI, he] at q; exact q.elim
  | exc c xs m' => simp only [evalI, he] at q; exact q
  | ok t m' =>
    simp only [evalI, he, Res.bind_ok] at q ⊢
    intro w' H' le S' vs r
    obtain ⟨v, rfl, r1⟩ := one_arg r rfl
    cases r1 with
    | int j =>
      simp only at q
      split at q
      · rename_i hj
        obtain ⟨h1, h2⟩ := rngOk_iff hj
        exact ⟨j, rfl, h1, h2, (show okW (X.kx hx) w R _ m' from q) _ _ le S' _ (walk_range 0 j.toNat)⟩
      · exact q.elim
    | _ => exact (show False from q).elim
/-- the surroundings of such a text -/
structure Hot (L : Lk) (D : Sd) (N : List Str) (sc : Scope) (hx : Option (Addr × Nat × List T)) (p : Addr × Obj) (X : Cx) : Prop where
  c : Cok L D N sc hx X
  hot : L2H.Hot1 X.A p
  pn : p ∈ X.pn
  lh : L.hot = true
  lt : L.top = false
  fn : ∀ x, X.fn x = true
  isi : ∀ a c xs, hx = some (a, c, xs) → a = p.1 ∧ ExcC X.K (D.cA c) ∧ Zc (.ref (D.cA c)) none p.2 ∧ ∃ vs, p.2.data = .fields vs
theorem Hot.blk {q : Addr × Obj} (h : Hot L D N sc hx q X) (s : Shared) (H : Hp) (C : Addr) (cl : List (Str × Addr)) (fp : List Addr) : Cok L D N (relS scope sc) hx (hotBlk X s H scope (compEnvC scope cl C X.env) fp q) := by
  refine ⟨h.c.nm, h.c.nd, ?_, fun e => (by rw [h.lh] at e; cases e), h.c.un, h.c.free, h.c.cst, h.c.fns, h.c.cls, fun a d xs e => ?_, (fun e => by rw [h.lt] at e; cases e), h.c.isx⟩
  · rw [← h.c.sc]; rfl
  · obtain ⟨rfl, h2, h3, h4⟩ := h.isi a d xs e
    exact call_isH (X := hotBlk X s H scope (compEnvC scope cl C X.env) fp q) (List.mem_singleton.mpr rfl) h2 h3 h4
def kCompH (L : Lk) (N : List Str) (sc : Scope) (i : Nat) (own : List Nat) (g : Nat) (a c e : E) (sts : List Stmt) : Bool := match sts with
  | [.Assign [.Name y _] (.ListComp elt [⟨.Name tgx _, .Call (.Name rx _) [ea] [] _, [ifc], as⟩] scope _) _] =>
    tgB allN N sc i y && decide (as = 0) && blkB N sc scope own && own.contains g && tgB noN N (relS scope sc) g tgx && decide (rx = "range") && freeB L sc rx && notStar ea && ck L N a sc .And [ea] && ck L N c (relS scope sc) .And [ifc] && ck L N e (relS scope sc) .And [elt]
  | _ => false
/-- name = [e for g in range(a) if c] -/
theorem S_compH {q : Addr × Obj} {i g : Nat} {own : List Nat} {a c e : E} {st : Stmt} (h : Hot L D N sc hx q X) (tk : L2N.Takes X W) (hk : kCompH L N sc i own g a c e [st] = true) : JS X hx D W (.set i (.comp own (.one g) (.rng a) c e)) st := by
  unfold kCompH at hk
  split at hk
  · rename_i y py elt tgx pt rx pr ea pc ifc as scope pl ps he
    cases he
    obtain ⟨hk, k11⟩ := band hk
    obtain ⟨hk, k10⟩ := band hk
    obtain ⟨hk, k9⟩ := band hk
    obtain ⟨hk, k8⟩ := band hk
    obtain ⟨hk, k7⟩ := band hk
    obtain ⟨hk, k6⟩ := band hk
    obtain ⟨hk, k5⟩ := band hk
    obtain ⟨hk, k4⟩ := band hk
    obtain ⟨hk, k3⟩ := band hk
    obtain ⟨k1, k2⟩ := band hk
    have k2 := of_decide_eq_true k2
    subst k2
    have k6 := of_decide_eq_true k6
    subst k6
    obtain ⟨f1, f2, f3, f4⟩ := freeB_of h.c k7
    obtain ⟨hN, hlc⟩ := tg_at h.c k1
    have nd : X.N.Nodup := by rw [h.c.nm]; exact h.c.nd
    have ji := I_rngH (tg := .Name tgx pt) (p := pr) (pos := pc) f1 f4 (args_hd k8 ((ck_ok a _ _ _ k9 h.c tk).e _ rfl) A_nil) (star_of _ X.env k8)
    have jb := blk_of h.c k3
    have jg : ∀ (s : Shared) (H : Hp) (C : Addr) (cl : List (Str × Addr)) (fp : List Addr), PG (hotBlk X s H scope (compEnvC scope cl C X.env) fp q) (.Name tgx pt) (tG (X.kx hx) (.one g)) := fun s H C cl fp => by
      obtain ⟨z, hi⟩ := tg_of (pos := pt) (h.blk s H C cl fp) (fun _ e => by cases e) k5
      exact G_one (X := hotBlk X s H scope (compEnvC scope cl C X.env) fp q) z hi
    have jt : ∀ (s : Shared) (H : Hp) (C : Addr) (cl : List (Str × Addr)) (fp : List Addr), PTs (hotBlk X s H scope (compEnvC scope cl C X.env) fp q) [ifc] (tT (X.kx hx) D W0 c) := fun s H C cl fp => pts_one ((ck_ok c _ _ _ k10 (h.blk s H C cl fp) takes_W0).t _ rfl)
    have je : ∀ (s : Shared) (H : Hp) (C : Addr) (cl : List (Str × Addr)) (fp : List Addr), PE (hotBlk X s H scope (compEnvC scope cl C X.env) fp q) elt (tE (X.kx hx) D W0 e) := fun s H C cl fp => (ck_ok e _ _ _ k11 (h.blk s H C cl fp) takes_W0).e _ rfl
    have hgs : ∀ j ∈ (Tgt.one g).slots, j ∈ own := fun j hj => by
      rw [List.mem_singleton.mp hj]; exact List.contains_iff_mem.mp k4
    have ps : PS X (.Assign [.Name y py] (.ListComp elt [⟨.Name tgx pt, .Call (.Name "range" pr) [ea] [] pc, [ifc], 0⟩] scope pl) ps) (tAsg (tLc (tI (X.kx hx) D W (.rng a)) (tG (X.kx hx) (.one g)) (tT (X.kx hx) D W0 c) (tE (X.kx hx) D W0 e) ((ownS N own).map (·.2))) (gName i)) := by
      have plain : swapsWith (.ListComp elt [⟨.Name tgx pt, .Call (.Name "range" pr) [ea] [] pc, [ifc], 0⟩] scope pl) (some (.Name y py)) ps.line X.env = pure false → PS X (.Assign [.Name y py] (.ListComp elt [⟨.Name tgx pt, .Call (.Name "range" pr) [ea] [] pc, [ifc], 0⟩] scope pl) ps) (tAsg (tLc (tI (X.kx hx) D W (.rng a)) (tG (X.kx hx) (.one g)) (tT (X.kx hx) D W0 c) (tE (X.kx hx) D W0 e) ((ownS N own).map (·.2))) (gName i)) := fun hb => by
        refine ps_set nd hN hlc ⟨fun pins s sg H Q I w => ?_⟩ hb (.inl (h.fn y))
        rw [eval_ListComp]
        refine hot_core h.hot h.pn nd I ji jb jg jt je (fun _ => rfl) w fun d C s' m H' I' qq hn f => ⟨m, hn, fun h'' sb => ?_⟩
        obtain ⟨f0, f1, f2, f3, f4, f5⟩ := f
        exact ⟨.ref d, H', I'.turned (t' := s'.toks) (fun b o hb e => (sb.2 b hb).trans e) f0 f1 f3 f4 f5, rfl, qq⟩
      rcases hlc.symm with hl | hl
      · exact plain (swL_cell hl)
      obtain ⟨b, hb⟩ := swL (elt := elt) (gs := [⟨.Name tgx pt, .Call (.Name "range" pr) [ea] [] pc, [ifc], 0⟩]) (scope := scope) (q := pl) (x := y) (px := py) (line := ps.line) (env := X.env)
      cases b with
      | false => exact plain hb
      | true =>
        refine ⟨fun pins s sg H En I w => ?_⟩
        rw [exec_Assign_Name_used _ _ _ _ hb]
        refine wpAny_bind (wpAny_standAt (wpAny_bind ?_))
        have w : tLc (tI (X.kx hx) D W (.rng a)) (tG (X.kx hx) (.one g)) (tT (X.kx hx) D W0 c) (tE (X.kx hx) D W0 e) ((ownS N own).map (·.2)) sg H (fun x H1 => gName i x sg H1 En.nx) := w
        refine wpAny_bind (thn (hot_core (Qf := fun _ s' => SP X pins En .next s') h.hot h.pn nd I ji jb jg jt je (fun _ => rfl) w fun d C s' m H' I' qq hn f => ?_) fun _ s' z => wpAny_pure (wpAny_pure z))
        refine wpAny_assign_Name (store_ok2 (v := V.ref d) I' nd hN (.inl hl) rfl (fun s2 I2 ⟨z, sb, hz⟩ => ?_) (.inr hl))
        obtain ⟨f0, f1, f2, f3, f4, f5⟩ := f
        have ne : C ≠ z := hz.elim (fun e => by rw [e]; exact f1) fun e e' => f4 y z e e'.symm
        exact ⟨m, hn.sameBut sb ne, fun h3 sb3 => ⟨_, H', I2.turned (t' := s2.toks) (fun b o hb e => (sb3.2 b hb).trans e) f0 f1 f3 f4 f5, qq⟩⟩
    rw [ownS_snd] at ps
    exact S_set ps (lt_of_get? hN) fun sg H Q w => comp_tE hgs _ sg H Q w
  · cases hk
end
end MP
end

section
set_option Elab.async false
set_option Elab.async false
set_option linter.all false
set_option maxRecDepth 100000
set_option maxHeartbeats 0
/-! MP19: the def that tells a refused deed's kind. -/
namespace MP
open PySem PySem.Spec PyProof.Rows L2
section
variable {L : Lk} {D : Sd} {N : List Str} {sc scope : Scope} {hx : Option (Addr × Nat × List T)} {X : Cx} {W : WX} {pos p : Pos}
def kSetH (N : List Str) (sc : Scope) (i : Nat) (e : Expr → Bool) (sts : List Stmt) : Bool := match sts with | [.Assign [.Name x _] ee _] => tgB allN N sc i x && notLc ee && e ee | _ => false
def ckH1 (L : Lk) (N : List Str) (sc : Scope) (m : S) (st : Stmt) : Bool := match m with
  | .set i (.comp own (.one g) (.rng a) c e) => kCompH L N sc i own g a c e [st]
  | .set i e => kSetH N sc i (fun x => ck L N e sc .And [x]) [st]
  | _ => false
def kSeqH (a : Stmt → Bool) (b : List Stmt → Bool) (sts : List Stmt) : Bool := match sts with | st :: r => a st && b r | [] => false
def ckHB (L : Lk) (N : List Str) (sc : Scope) : S → List Stmt → Bool
  | .seq a b, sts => kSeqH (fun st => ckH1 L N sc a st) (fun r => ckHB L N sc b r) sts
  | .ret e, sts => kRetN (fun x => ck L N e sc .And [x]) sts
  | _, _ => false
theorem ckH1_ok {q : Addr × Obj} {m : S} {st : Stmt} (h : Hot L D N sc hx q X) (tk : L2N.Takes X W) (hk : ckH1 L N sc m st = true) : JS X hx D W m st := by
  unfold ckH1 at hk
  split at hk
  · exact S_compH h tk hk
  · unfold kSetH at hk
    split at hk
    · rename_i e1
      cases e1
      obtain ⟨hk, k3⟩ := band hk
      obtain ⟨k1, k2⟩ := band hk
      obtain ⟨hN, hl⟩ := tg_at h.c k1
      exact S_set (set_plain h.c h.fn k1 ((ck_ok _ _ _ _ k3 h.c tk).e _ rfl) (sw_plain k2)) (lt_of_get? hN) fun _ _ _ q => q
    · cases hk
  · cases hk
theorem ckHB_ok {q : Addr × Obj} : ∀ (m : S) (sts : List Stmt), ckHB L N sc m sts = true → Hot L D N sc hx q X → L2N.Takes X W → JB X hx D W m sts
  | .seq a b, sts, h, c, tk => by
    simp only [ckHB, kSeqH] at h
    split at h
    · obtain ⟨h1, h2⟩ := band h
      exact B_cons (ckH1_ok c tk h1) (ckHB_ok b _ h2 c tk)
    · cases h
  | .ret e, sts, h, c, tk => by
    simp only [ckHB, kRetN] at h
    split at h
    · exact B_one (S_ret ((ck_ok e _ _ _ h c.c tk).e _ rfl))
    · cases h
  | .skip, _, h, _, _ => by simp [ckHB] at h
  | .set .., _, h, _, _ => by simp [ckHB] at h
  | .setBox .., _, h, _, _ => by simp [ckHB] at h
  | .setMany .., _, h, _, _ => by simp [ckHB] at h
  | .setPar .., _, h, _, _ => by simp [ckHB] at h
  | .setIdx .., _, h, _, _ => by simp [ckHB] at h
  | .setAttr .., _, h, _, _ => by simp [ckHB] at h
  | .setAttrBox .., _, h, _, _ => by simp [ckHB] at h
  | .expr .., _, h, _, _ => by simp [ckHB] at h
  | .ite .., _, h, _, _ => by simp [ckHB] at h
  | .for .., _, h, _, _ => by simp [ckHB] at h
  | .while .., _, h, _, _ => by simp [ckHB] at h
  | .brk, _, h, _, _ => by simp [ckHB] at h
  | .cnt, _, h, _, _ => by simp [ckHB] at h
  | .retNew .., _, h, _, _ => by simp [ckHB] at h
  | .retMove .., _, h, _, _ => by simp [ckHB] at h
  | .raise .., _, h, _, _ => by simp [ckHB] at h
  | .tryx .., _, h, _, _ => by simp [ckHB] at h
  | .tryRef .., _, h, _, _ => by simp [ckHB] at h
  | .freeze .., _, h, _, _ => by simp [ckHB] at h
end
/-! ### the def -/
def deafC (sub : Nat → Nat → Option Bool) : Ctx := ⟨fun _ _ _ => .stuck, 0, sub, fun _ _ => none, fun _ => none, fun _ => none⟩
/-- what it tells of an exception of the class c -/
def hotRun (sub : Nat → Nat → Option Bool) (b : S) (nl : Nat) (c : Nat) : Option Nm :=
  match exec (deafC sub) b (some (.exc c []) :: List.replicate (nl - 1) none) [] with
  | .ret (.str s) false [] => some s
  | _ => none
theorem hotRun_eq {sub : Nat → Nat → Option Bool} {b : S} {nl c : Nat} {s : Nm} (h : hotRun sub b nl c = some s) : exec (deafC sub) b (some (.exc c []) :: List.replicate (nl - 1) none) [] = .ret (.str s) false [] := by
  unfold hotRun at h
  split at h
  · rename_i h'; cases h; exact h'
  · cases h
section
variable {P : Program} {w : World} {K : PySem.W.Frag} {mg : Str → Option Value} {base : Heap}
/-- what the module is, for the def -/
structure HotK (K : PySem.W.Frag) (mg : Str → Option Value) (L : Lk) (cA : Nat → Addr) (sub : Nat → Nat → Option Bool) (known : Nat → Bool) (f : Addr) (fd : FuncData) (name : Str) (params : Arguments) (body : List Stmt) (scope : Scope) (N : List Str) (x : Str) (b : S) : Prop where
  lh : L.hot = true
  lt : L.top = false
  free : ∀ x ∈ L.free, mg x = none
  cst : L.cst = []
  fns : L.fns = []
  cls : L.cls = []
  isx : ∀ z d, L.isx.lookup z = some d → ∃ (cv : V) (cw : Value), (mg z = some cw ∨ (mg z = none ∧ bootBuiltins z = some cw)) ∧ RelV cv cw ∧ (∀ u, RelV cv u → u = cw) ∧ ∀ c b, sub c d = some b → PySem.W.kitOne K (.ref (cA c)) cw = some b
  exc : ∀ c, known c = true → ExcC K (cA c)
  fn : ∃ kws, FunD K name name params body scope [] kws f fd
  sc : FnScope N [x] scope
  par : scope.names.lookup x = some .local
  ok : ckHB L N scope b body = true
  binds : Binds K fd [x] []
theorem hot_fn {L : Lk} {cA : Nat → Addr} {sub : Nat → Nat → Option Bool} {known : Nat → Bool} {f : Addr} {fd : FuncData} {name : Str} {params : Arguments} {body : List Stmt} {scope : Scope} {N : List Str} {x : Str} {b : S} (G : HotK K mg L cA sub known f fd name params body scope N x b)
    {A : Around} {outer : List PySem.Env} {s : Shared} {H : Hp} {us : List Value} {Q : VK} {E : XK} {p : Addr × Obj} {c : Nat} {t : Nm} (hr : L2H.RoomH 1 A) (hot : L2H.Hot1 A p) (hz : Zc (.ref (cA c)) none p.2) (pin : L2H.PinOk outer H s p) (e0 : Env0 P w K mg base A outer s H)
    (r : Vals [.ref p.1] us) (hk : known c = true) (ht : hotRun sub b N.length c = some t) (hq : ∃ wd m, Sim ⟨K, none⟩ wd m H ∧ okN ⟨K, none⟩ wd Q (.str t, false) m) :
    codeAny (model P w) A (.call (.ref f) ⟨us, []⟩) (CR CX0 outer P w H s Q E) s := by
  obtain ⟨kws, F⟩ := G.fn
  obtain ⟨oc, od, dV, kV, doc, pm, an, cdv, ct, osl, rfl, lk, hcd, _, _⟩ := F.ex
  have inS : K.In s.heap := e0.mod.kin.keeps fun b o e => (e0.bs b o e).1
  have lim : s.heap.NoLimit := e0.mod.nolimit.keeps fun b o e => (e0.bs b o e).1
  have hl : us.length = 1 := by rw [← r.length]; rfl
  have bt := G.binds s us inS (by rw [List.append_nil]; exact hl)
  rw [List.append_nil] at bt
  have kinds : ∀ y ∈ [x].zip us, scope.names.lookup y.1 = some .local ∨ (scope.names.lookup y.1 = some .cell ∧ ((cellsFrom (s.heap.objs.size + 1) scope.names []).lookup y.1).isSome = true) := fun y hy => by
    have : y.1 ∈ [x] := (List.of_mem_zip (a := y.1) (b := y.2) hy).1
    rw [List.mem_singleton.mp this]; exact .inl G.par
  refine codeAny_call_function hr.depth (inS _ _ lk) rfl G.sc.co G.sc.gen rfl (PySem.W.codeRec_of inS hcd) (bt _ _ _ _ ?_)
  refine wpAny_newFunctionEnv_cells G.sc.kind kinds fun env he s1 y => ?_
  subst he
  refine ⟨lim.keeps y.toInCall.keep, codeAny_func ?_⟩
  have I := L2H.inv_startH (CX := CX0) (E := E) (P := P) (w := w) (K := K) (mg := mg) (base := base) (vs := [.ref p.1]) G.sc pin e0 rfl r y
  obtain ⟨wd, m, S, ok⟩ := hq
  obtain ⟨vs0, hv0⟩ := hot.2
  have cok : Cok L ⟨deafC sub, cA⟩ N scope (some (p.1, c, [])) (L2H.cxH CX0 P w K mg base N name scope f cdv A outer s H E p) := by
    refine ⟨rfl, G.sc.nd, rfl, fun e => (by rw [G.lh] at e; cases e), by have := (hr.mono (Nat.zero_le _) : L2H.RoomH 0 A).un; show A.units + 3 + 65 < _; omega, G.free, fun _ _ e => (by rw [G.cst] at e; cases e), fun _ _ _ e => (by rw [G.fns] at e; cases e), fun _ _ e => (by rw [G.cls] at e; cases e), fun a d xs e => ?_, (fun e => by rw [G.lt] at e; cases e), fun _ => G.isx⟩
    cases e
    exact call_isH (X := L2H.cxH CX0 P w K mg base N name scope f cdv A outer s H E p) (List.mem_singleton.mpr rfl) (G.exc c hk) hz ⟨vs0, hv0.1⟩
  have ho : Hot L ⟨deafC sub, cA⟩ N scope (some (p.1, c, [])) p (L2H.cxH CX0 P w K mg base N name scope f cdv A outer s H E p) := by
    refine ⟨cok, hot, List.mem_singleton.mpr rfl, G.lh, G.lt, fun _ => rfl, fun a d xs e => ?_⟩
    cases e
    exact ⟨rfl, G.exc c hk, hz, vs0, hv0.1⟩
  have jb := ckHB_ok (W := W0) b body G.ok ho takes_W0
  have read : tS ⟨K, some (p.1, c, [])⟩ ⟨deafC sub, cA⟩ W0 b { nx := fun _ H' => Q .non H', rt := Q } (L2.start N [.ref p.1]) H := by
    refine ⟨⟨wd.Z, [], allFr wd m H⟩, [], some (.exc c []) :: List.replicate (N.length - 1) none, S.framed, ?_, ?_⟩
    rotate_left
    · show oT _ _ _ _ _ (exec (deafC sub) b (some (.exc c []) :: List.replicate (N.length - 1) none) [])
      rw [hotRun_eq ht]
      intro w' H' le S' v rv
      cases rv
      obtain ⟨S2, le2⟩ := S.unframed le S'
      exact ok _ H' le2 S2 _ (.str t)
    · exact start_env (f := ⟨1, N.length, false, b⟩) (ts := [.exc c []]) (.cons (.exc rfl) .nil)
  refine wpAny_mono (jb.run [] s1 (L2.start N [.ref p.1]) H _ I read) (fun fl s' hs => ?_) fun e s' hs => hs
  cases fl with
  | ret u =>
    obtain ⟨v, sg', H', J, rv, q⟩ := hs
    exact ⟨v, H', J.os, J.bare, J.base, J.hok, rv, q⟩
  | next =>
    obtain ⟨sg', H', J, q⟩ := hs
    exact ⟨.non, H', J.os, J.bare, J.base, J.hok, rfl, q⟩
  | brk =>
    obtain ⟨_, _, _, q⟩ := hs
    exact q.elim
  | cont =>
    obtain ⟨_, _, _, q⟩ := hs
    exact q.elim
/-- the call of it in a suite -/
theorem ref_ok {L : Lk} {cA : Nat → Addr} {sub : Nat → Nat → Option Bool} {known : Nat → Bool} {f : Addr} {fd : FuncData} {name : Str} {params : Arguments} {body : List Stmt} {scope : Scope} {N : List Str} {y : Str} {b : S} (G : HotK K mg L cA sub known f fd name params body scope N y b)
    {x : Str} (hm : mg x = some (.ref f)) (hkp : PySem.W.keepIn K (.ref f) = true) (hdb : (x == ("__debug__" : Str)) = false) (X : Cx) (D : Sd) (h1 : X.prog = P) (h2 : X.w = w) (h3 : X.K = K) (h4 : X.mg = mg) (h5 : X.base = base) (hr : Room 3 X.A) (h6 : D.cA = cA) (h7 : ∀ c t, D.C.rf c = some t → known c = true ∧ hotRun sub b N.length c = some t) (hg : Gl X x) : RefOk X D x := by
  subst h1 h2 h3 h4 h5 h6
  intro j n p1 p2 p3 p4 a oe cls d pn hN hl hd1 hd2 hz hf
  refine ps_ret (te := fun sg H Q => ∃ c s, cls = .ref (D.cA c) ∧ d = none ∧ D.C.rf c = some s ∧ (sg.length = X.N.length → sg[j]? = some (some (.ref a))) ∧ H a = none ∧ ∃ w m, Sim (X.kx none) w m H ∧ okN (X.kx none) w Q (.str s, false) m) ⟨fun pins s sg H Q I h => ?_⟩
  obtain ⟨c, t, rfl, rfl, ht, hs, ha, hq⟩ := h
  obtain ⟨hkc, ht⟩ := h7 c t ht
  refine wpAny_Call_Name_kw (ld_glob I hg hm ?_ hdb)
  have pa : PA (X.suite a ((a, oe) :: pn)) [.Name n p2] (tCons (tVar j) tNil) := pa_cons (pe_var hN (.inl hl) hd1 hd2) pa_nil (star_of _ _ rfl)
  refine PySem.W.callWith_K (h₀ := X.base) I.ok.mod.kin hkp (thn (pa.run p3 pins s sg H (fun vs H1 => vs = [.ref a] ∧ H1 = H) I ⟨_, hs I.len, rfl, rfl⟩) fun us s1 ⟨vs, H1, I1, r1, e1, e2⟩ => ?_) (star_of _ _ rfl) rfl
  subst e1 e2
  refine ⟨I1.kIn, ?_⟩
  have P1 := I1.pin (a, oe) (List.mem_append_left _ (List.mem_cons_self))
  have pin : L2H.PinOk X.stack H1 s1 (a, oe) := ⟨P1.1, P1.2.1, fun hm => (List.mem_cons.mp (I1.stkSub a hm)).elim P1.2.2.1 P1.2.2.2.1, P1.2.2.2.2⟩
  have hot : L2H.Hot1 (X.suite a ((a, oe) :: pn)).A (a, oe) := by
    obtain ⟨vs, hv⟩ := hf
    exact ⟨rfl, vs, hv, hz.2.2 vs hv⟩
  have rh : L2H.RoomH 1 (X.suite a ((a, oe) :: pn)).A := ⟨by have := hr.dp; show X.A.depth + _ < _; omega, by have := hr.un; show X.A.units + _ < _; omega⟩
  refine wpAny_call (codeAny_mono (hot_fn (E := fun _ _ _ => False) G rh hot hz.zc pin I1.env0 r1 hkc ht hq) fun r s' hq' => ?_)
  cases r with
  | error e => exact hq'.elim
  | ok fl =>
    cases fl with
    | ret u => exact I1.after hq'
    | next => exact hq'.elim
    | brk => exact hq'.elim
    | cont => exact hq'.elim
end
end MP
end

section
set_option Elab.async false
set_option Elab.async false
set_option linter.all false
set_option maxRecDepth 100000
set_option maxHeartbeats 0
/-! MP20: the module's facts. -/
namespace MP
open PySem PySem.Spec PyProof.Rows L2 He
/-- a law's tables -/
structure Ld where
  defs : List Df
  dfl : List (List (Dv × T))
  /-- classes of exceptions -/
  clsN : List Str
  cst : List (Str × T)
  free : List Str
  fns : List Fn
  fuel : Nat
  /-- class c is under class d -/
  sub : Nat → Nat → Bool
  /-- the def that tells a refused deed's kind -/
  hd : Df
  hx : Str
  hb : S
  /-- the built-in classes that it asks for -/
  bx : List (Str × Nat)
def mkFns : Nat → List Df → List (List (Dv × T)) → List (Str × Nat × List T)
  | i, d :: ds, l :: ls => (d.name, i, l.map (·.2)) :: mkFns (i + 1) ds ls
  | _, _, _ => []
def mkCls : Nat → List Str → List (Str × Nat)
  | i, x :: xs => (x, i) :: mkCls (i + 1) xs
  | _, [] => []
namespace Ld
variable (D : Ld)
def lk : Lk := ⟨mkFns 0 D.defs D.dfl, mkCls 0 D.clsN, D.cst, D.free, some D.hd.name, false, [], true⟩
def lh : Lk := ⟨[], [], [], D.free, none, true, mkCls 0 D.clsN ++ D.bx, false⟩
def known (c : Nat) : Bool := decide (c < D.clsN.length)
def subO (c d : Nat) : Option Bool := if D.known c then (if D.known d then some (D.sub c d) else if D.bx.any (fun q => q.2 == d) then some true else none) else none
def prog : Prog := ⟨D.fns, D.fuel, D.subO, fun _ _ => none, fun _ => none, fun c => if D.known c then hotRun D.subO D.hb D.hd.N.length c else none⟩
def cA (K : PySem.W.Frag) (c : Nat) : Addr := ga K ((D.clsN[c]?).getD Str.empty)
def fA (K : PySem.W.Frag) (i : Nat) : Addr := match D.defs[i]? with | some d => ga K d.name | none => 0
def dd (d : Df) (l : List (Dv × T)) : DefD := ⟨(d.name, none), d.name, d.name, d.params, d.body, d.scope, l.map (·.1), []⟩
def fn : List DefD := dd D.hd [] :: (D.defs.zip D.dfl).map fun p => dd p.1 p.2
def excB (K : PySem.W.Frag) (C : Addr) : Bool :=
  decide (PySem.W.findIn K (.ref C) "__getattribute__" = some (some (.builtin "BaseException.__getattribute__"))) && decide (PySem.W.findIn K (.ref C) "__getattr__" = some none) && decide (PySem.W.subIn K (.ref C) (.type "BaseException") = some true) &&
  PySem.W.hasDictIn K C && decide (PySem.W.findIn K (.ref C) "__class__" = some (some (.builtin "object.__class__"))) && decide (PySem.W.specialIn K (.builtin "object.__class__") "__get__" = some (some (.builtin "getset_descriptor.__get__"))) &&
  decide (PySem.W.takesIn K (.builtin "object.__class__") = some true) && decide (PySem.W.mroIn K C (.type "object") = some true)
theorem excB_ok {K : PySem.W.Frag} {C : Addr} (h : excB K C = true) : ExcC K C := by
  unfold excB at h
  obtain ⟨h, h8⟩ := ba h
  obtain ⟨h, h7⟩ := ba h
  obtain ⟨h, h6⟩ := ba h
  obtain ⟨h, h5⟩ := ba h
  obtain ⟨h, h4⟩ := ba h
  obtain ⟨h, h3⟩ := ba h
  obtain ⟨h1, h2⟩ := ba h
  exact ⟨of_decide_eq_true h1, of_decide_eq_true h2, of_decide_eq_true h3, h4, of_decide_eq_true h5, of_decide_eq_true h6, of_decide_eq_true h7, of_decide_eq_true h8⟩
def cstK (K : PySem.W.Frag) (q : Str × T) : Bool := match q.2 with
  | .int i => (Fa.int q.1 i).ok K
  | .str s => (Fa.str q.1 (toStr s)).ok K
  | _ => false
/-- all that is asked of the frozen part -/
def ex (K : PySem.W.Frag) : Bool :=
  (D.free.all fun x => (Fa.free x).ok K) && D.cst.all (cstK K) && (D.clsN.all fun x => (Fa.glo x).ok K && (Fa.exc x).ok K && excB K (ga K x)) &&
  ((List.range D.clsN.length).all fun c => (List.range D.clsN.length).all fun d => decide (PySem.W.exmOne K (.ref (D.cA K c)) (.ref (D.cA K d)) = some (D.sub c d)) && decide (PySem.W.kitOne K (.ref (D.cA K c)) (.ref (D.cA K d)) = some (D.sub c d))) &&
  ((List.range D.clsN.length).all fun c => D.bx.all fun q => decide (PySem.W.kitOne K (.ref (D.cA K c)) (.type q.1.toString) = some true)) &&
  (D.bx.all fun q => decide (bootBuiltins q.1 = some (.type q.1.toString)) && (Fa.free q.1).ok K && !(D.known q.2)) &&
  (D.defs.all fun d => (Fa.glo d.name).ok K) && (Fa.glo D.hd.name).ok K
end Ld
def scB (N ps : List Str) (sc : Scope) : Bool :=
  decide (sc.kind = .function) && decide (sc.isCoroutine = false) && decide (sc.isGenerator = false) && decide N.Nodup && decide (N.take ps.length = ps) && (ps.all fun x => decide (sc.names.lookup x = some .local) || decide (sc.names.lookup x = some .cell)) && (sc.names.all fun y => !(decide (y.2 = .free)))
theorem scB_ok {N ps : List Str} {sc : Scope} (h : scB N ps sc = true) : FnScope N ps sc := by
  unfold scB at h
  obtain ⟨h, h7⟩ := ba h
  obtain ⟨h, h6⟩ := ba h
  obtain ⟨h, h5⟩ := ba h
  obtain ⟨h, h4⟩ := ba h
  obtain ⟨h, h3⟩ := ba h
  obtain ⟨h1, h2⟩ := ba h
  refine ⟨of_decide_eq_true h1, of_decide_eq_true h2, of_decide_eq_true h3, of_decide_eq_true h4, of_decide_eq_true h5, fun x hx => ?_, fun y hy e => ?_⟩
  · have := List.all_eq_true.mp h6 x hx
    simpa using this
  · have := List.all_eq_true.mp h7 y hy
    simp [e] at this
def dvT : Dv → T → Bool
  | .non, .non => true
  | .bl b, .bl c => b == c
  | .int i, .int j => decide (i = j)
  | .str x, .str s => decide (x = toStr s)
  | _, _ => false
theorem dvT_rep {d : Dv} {t : T} (h : dvT d t = true) (K : PySem.W.Frag) (k : Kx) (w : Wd) : Rep k w t (d.v K) := by
  cases d <;> cases t <;> first
    | (exfalso; exact Bool.false_ne_true h)
    | exact .non
    | (have h := (beq_iff_eq.mp (show (_ == _) = true from h)); subst h; exact .bl _)
    | (have h := of_decide_eq_true (show decide _ = true from h); subst h; first | exact .int _ | exact .str _)
theorem dvTs_rep {K : PySem.W.Frag} {k : Kx} {w : Wd} : ∀ {l : List (Dv × T)}, (l.all fun q => dvT q.1 q.2) = true → Reps k w (l.map (·.2)) (l.map fun q => q.1.v K)
  | [], _ => .nil
  | q :: l, h => by
    rw [List.all_cons] at h
    obtain ⟨h1, h2⟩ := ba h
    exact .cons (dvT_rep h1 K k w) (dvTs_rep h2)
/-- what is checked of the tables alone -/
def Ld.okB (D : Ld) : Bool :=
  decide (D.defs.length = D.fns.length) && decide (D.defs.length = D.dfl.length) && ((D.defs.zip D.fns).all fun p => ckS D.lk p.1.N p.1.scope p.2.body p.1.body && scB p.1.N p.1.ps p.1.scope && decide (p.2.np = p.1.ps.length)) &&
  (D.dfl.all fun l => l.all fun q => dvT q.1 q.2) && ckHB D.lh D.hd.N D.hd.scope D.hb D.hd.body && decide (D.hd.ps = [D.hx]) && scB D.hd.N D.hd.ps D.hd.scope && decide (D.hd.scope.names.lookup D.hx = some .local) && !(D.hd.name == ("__debug__" : Str))
/-- how a def's parameters are bound -/
def BindsOk (d : Df) (l : List (Dv × T)) : Prop := ∀ (K : PySem.W.Frag) (f : Addr) (fd : FuncData), FunD K d.name d.name d.params d.body d.scope (l.map fun q => q.1.v K) [] f fd →
  ∀ n, n ≤ l.length → ∃ dvl, Binds K fd d.ps dvl ∧ Vals ((l.drop (l.length - n)).map fun q => q.1.v K) dvl
def AllB : List Df → List (List (Dv × T)) → Prop
  | d :: ds, l :: ls => BindsOk d l ∧ AllB ds ls
  | _, _ => True
theorem AllB.at : ∀ {ds : List Df} {ls : List (List (Dv × T))} {i : Nat} {d : Df} {l : List (Dv × T)}, AllB ds ls → ds[i]? = some d → ls[i]? = some l → BindsOk d l
  | [], _, _, _, _, _, h, _ => by simp at h
  | _ :: _, [], _, _, _, _, _, h => by simp at h
  | _ :: _, _ :: _, 0, _, _, h, h1, h2 => by
    simp at h1 h2; subst h1 h2; exact h.1
  | _ :: _, _ :: _, i + 1, _, _, h, h1, h2 => AllB.at (i := i) h.2 (by simpa using h1) (by simpa using h2)
theorem mkFns_at : ∀ {ds : List Df} {ls : List (List (Dv × T))} {i j : Nat} {x : Str} {df : List T}, (mkFns i ds ls).lookup x = some (j, df) → ∃ k d l, j = i + k ∧ ds[k]? = some d ∧ ls[k]? = some l ∧ d.name = x ∧ df = l.map (·.2)
  | [], _, _, _, _, _, h => by simp [mkFns] at h
  | _ :: _, [], _, _, _, _, h => by simp [mkFns] at h
  | d :: ds, l :: ls, i, j, x, df, h => by
    unfold mkFns at h
    rw [List.lookup_cons] at h
    split at h
    · rename_i e
      simp only [Option.some.injEq, Prod.mk.injEq] at h
      exact ⟨0, d, l, by omega, rfl, rfl, (beq_iff_eq.mp e).symm, h.2.symm⟩
    · obtain ⟨k, d', l', e1, e2, e3, e4, e5⟩ := mkFns_at h
      exact ⟨k + 1, d', l', by omega, by simpa using e2, by simpa using e3, e4, e5⟩
theorem mkCls_at : ∀ {xs : List Str} {i c : Nat} {x : Str}, (mkCls i xs).lookup x = some c → ∃ k, c = i + k ∧ xs[k]? = some x
  | [], _, _, _, h => by simp [mkCls] at h
  | y :: ys, i, c, x, h => by
    unfold mkCls at h
    rw [List.lookup_cons] at h
    split at h
    · rename_i e
      simp only [Option.some.injEq] at h
      exact ⟨0, by omega, by simp [beq_iff_eq.mp e]⟩
    · obtain ⟨k, e1, e2⟩ := mkCls_at h
      exact ⟨k + 1, by omega, by simpa using e2⟩
end MP
end

section
set_option Elab.async false
set_option linter.all false
set_option maxRecDepth 100000
set_option maxHeartbeats 0
/-! MP21: the module is what its tables say. -/
namespace MP
open PySem PySem.Spec PyProof.Rows L2 He
def fdOf (K : PySem.W.Frag) (f : Addr) : FuncData := match K.lookup f with
  | some ⟨_, _, .func fd, _⟩ => fd
  | _ => default
theorem fdOf_eq {K : PySem.W.Frag} {x q : Str} {pa : Arguments} {bd : List Stmt} {sc : Scope} {dvs : List V} {kws : List (Str × V)} {f : Addr} {fd : FuncData} (F : FunD K x q pa bd sc dvs kws f fd) : fdOf K f = fd := by
  obtain ⟨oc, od, dV, kV, doc, pm, an, cdv, ct, osl, _, lk, _⟩ := F.ex
  unfold fdOf
  rw [lk]
section
variable {D : Ld} {P : Program} {w : World} {K : PySem.W.Frag} {mg : Str → Option Value} {h base : Heap}
theorem all_at {α : Type} {l : List α} {f : α → Bool} (h : l.all f = true) {i : Nat} {a : α} (e : l[i]? = some a) : f a = true := List.all_eq_true.mp h a (List.mem_of_getElem? e)
theorem range_at {n : Nat} {f : Nat → Bool} (h : (List.range n).all f = true) {c : Nat} (hc : c < n) : f c = true := List.all_eq_true.mp h c (List.mem_range.mpr hc)
theorem lookup_app {α : Type} {x : Str} {a : α} : ∀ {l r : List (Str × α)}, (l ++ r).lookup x = some a → l.lookup x = some a ∨ r.lookup x = some a
  | [], _, h => .inr h
  | (y, b) :: l, r, h => by
    rw [List.cons_append, List.lookup_cons] at h
    rw [List.lookup_cons]
    split at h
    · exact .inl (by simpa using h)
    · exact lookup_app h
theorem gok (hok : D.okB = true) (hb : AllB D.defs D.dfl) (hbh : BindsOk D.hd []) (c : SaysX [] D.fn [] [] D.ex w h K) (X : K.In h) (Gn : h.Ns mainGlobals mg) : Gok P w K mg base D.lk D.prog (D.cA K) (D.fA K) (fun i => fdOf K (D.fA K i)) D.defs := by
  have hex := c.more
  unfold Ld.ex at hex
  obtain ⟨hex, x8⟩ := ba hex
  obtain ⟨hex, x7⟩ := ba hex
  obtain ⟨hex, x6⟩ := ba hex
  obtain ⟨hex, x5⟩ := ba hex
  obtain ⟨hex, x4⟩ := ba hex
  obtain ⟨hex, x3⟩ := ba hex
  obtain ⟨x1, x2⟩ := ba hex
  unfold Ld.okB at hok
  obtain ⟨hok, o9⟩ := ba hok
  obtain ⟨hok, o8⟩ := ba hok
  obtain ⟨hok, o7⟩ := ba hok
  obtain ⟨hok, o6⟩ := ba hok
  obtain ⟨hok, o5⟩ := ba hok
  obtain ⟨hok, o4⟩ := ba hok
  obtain ⟨hok, o3⟩ := ba hok
  obtain ⟨o1, o2⟩ := ba hok
  have o1 := of_decide_eq_true o1
  have o2 := of_decide_eq_true o2
  have clsK : ∀ {k : Nat} {x : Str}, D.clsN[k]? = some x → D.cA K k = ga K x := fun {k x} e => by unfold Ld.cA; rw [e]; rfl
  have kn : ∀ {k : Nat}, D.known k = true → ∃ x, D.clsN[k]? = some x := fun {k} e => ⟨_, List.getElem?_eq_getElem (of_decide_eq_true e)⟩
  have fnd : ∀ {i : Nat} {d : Df}, D.defs[i]? = some d → ∃ l, D.dfl[i]? = some l ∧ FunD K d.name d.name d.params d.body d.scope (l.map fun q => q.1.v K) [] (D.fA K i) (fdOf K (D.fA K i)) := fun {i d} e => by
    have hi : i < D.dfl.length := by rw [← o2]; exact lt_of_get? e
    refine ⟨_, List.getElem?_eq_getElem hi, ?_⟩
    have hm : Ld.dd d D.dfl[i] ∈ D.fn := by
      unfold Ld.fn
      refine List.mem_cons_of_mem _ (List.mem_map.mpr ⟨(d, D.dfl[i]), ?_, rfl⟩)
      refine List.mem_of_getElem? (i := i) ?_
      rw [List.getElem?_zip_eq_some]
      exact ⟨e, List.getElem?_eq_getElem hi⟩
    obtain ⟨fd, F⟩ := SaysD.defs c.t.d hm
    have fa : D.fA K i = ga K d.name := by unfold Ld.fA; rw [e]
    have F : FunD K d.name d.name d.params d.body d.scope ((D.dfl[i].map (·.1)).map (Dv.v K)) [] (ga K d.name) fd := F
    rw [List.map_map] at F
    rw [fa, fdOf_eq F]
    exact F
  refine ⟨fun x hx => free_ok X Gn (List.all_eq_true.mp x1 x hx), fun x t e => ?_, fun x k e => ?_, fun x b ex a r e => ?_, fun x e Xc Dc h1 h2 h3 h4 h5 hr h6 h7 hg => ?_, rfl, o1, fun i d e => ?_, fun x i df e => ?_, fun i d f e1 e2 => ?_⟩
  · -- constants
    have q := List.all_eq_true.mp x2 (x, t) (PySem.mem_of_lookup e)
    unfold Ld.cstK at q
    cases t with
    | int i =>
      obtain ⟨tk, e⟩ := int_ok X Gn q
      exact ⟨.int i, _, e, ⟨tk, rfl⟩, fun _ _ => .int i⟩
    | str s =>
      obtain ⟨tk, e⟩ := str_ok X Gn q
      exact ⟨.str (toStr s), _, e, ⟨tk, rfl⟩, fun _ _ => .str s⟩
    | _ => cases q
  · obtain ⟨j, e1, e2⟩ := mkCls_at e
    obtain rfl : k = j := by omega
    have q := all_at x3 e2
    obtain ⟨q, _⟩ := ba q
    obtain ⟨q1, q2⟩ := ba q
    obtain ⟨r1, r2, r3, r4⟩ := exc_ok q2
    rw [clsK e2]
    exact ⟨"ValueError", "ValueError.__new__", "ValueError.__init__", veBase, PySem.F.excBase_ValueError, r1, glo_ok X Gn q1, r2, r3, r4⟩
  · obtain ⟨j, e1, e2⟩ := mkCls_at ex
    obtain rfl : b = j := by omega
    have e : D.subO a b = some r := e
    unfold Ld.subO at e
    split at e
    · rename_i ka
      have kd : D.known b = true := decide_eq_true (lt_of_get? e2)
      rw [if_pos kd] at e
      cases e
      exact of_decide_eq_true (ba (range_at (range_at x4 (of_decide_eq_true ka)) (lt_of_get? e2))).1
    · cases e
  · -- the def that tells the kind
    have e : D.hd.name = x := Option.some.inj e
    have hm : Ld.dd D.hd [] ∈ D.fn := List.mem_cons_self
    obtain ⟨fd, F⟩ := SaysD.defs c.t.d hm
    have F : FunD K D.hd.name D.hd.name D.hd.params D.hd.body D.hd.scope [] [] (ga K D.hd.name) fd := F
    have o6 := of_decide_eq_true o6
    obtain ⟨dvl, b1, b2⟩ := hbh K _ fd F 0 (Nat.zero_le _)
    cases b2
    have sc := scB_ok o7
    rw [o6] at sc b1
    have hk : HotK K mg D.lh (D.cA K) D.subO D.known (ga K D.hd.name) fd D.hd.name D.hd.params D.hd.body D.hd.scope D.hd.N D.hx D.hb := by
      refine ⟨rfl, rfl, fun x hx => free_ok X Gn (List.all_eq_true.mp x1 x hx), rfl, rfl, rfl, fun z d ez => ?_, fun a ka => ?_, ⟨_, F⟩, sc, of_decide_eq_true o8, o5, b1⟩
      · rcases lookup_app ez with ez | ez
        · obtain ⟨j, e1, e2⟩ := mkCls_at ez
          obtain rfl : d = j := by omega
          have q := all_at x3 e2
          obtain ⟨q, _⟩ := ba q
          obtain ⟨q1, q2⟩ := ba q
          refine ⟨.ref (ga K z), .ref (ga K z), .inl (glo_ok X Gn q1), rfl, fun u hu => hu, fun a r es => ?_⟩
          unfold Ld.subO at es
          split at es
          · rename_i ka
            have kd : D.known d = true := decide_eq_true (lt_of_get? e2)
            rw [if_pos kd] at es
            cases es
            have q := range_at (range_at x4 (of_decide_eq_true ka)) (lt_of_get? e2)
            rw [← clsK e2]
            exact of_decide_eq_true (ba q).2
          · cases es
        · have hz := PySem.mem_of_lookup ez
          have q := List.all_eq_true.mp x6 _ hz
          obtain ⟨q, q3⟩ := ba q
          obtain ⟨q1, q2⟩ := ba q
          refine ⟨.ty z.toString, .type z.toString, .inr ⟨free_ok X Gn q2, of_decide_eq_true q1⟩, rfl, fun u hu => hu, fun a r es => ?_⟩
          unfold Ld.subO at es
          split at es
          · rename_i ka
            have kd : ¬ D.known d = true := by simpa using q3
            rw [if_neg kd] at es
            split at es
            · cases es
              have q5 : decide (PySem.W.kitOne K (.ref (D.cA K a)) (.type z.toString) = some true) = true := List.all_eq_true.mp (range_at x5 (of_decide_eq_true ka)) (z, d) hz
              exact of_decide_eq_true q5
            · cases es
          · cases es
      · obtain ⟨x, e⟩ := kn ka
        rw [clsK e]
        exact Ld.excB_ok (ba (all_at x3 e)).2
    subst e
    refine ref_ok hk (glo_ok X Gn x8) F.kp (by simpa using o9) Xc Dc h1 h2 h3 h4 h5 hr h6 (fun a t ht => ?_) hg
    rw [h7] at ht
    have ht : (if D.known a then hotRun D.subO D.hb D.hd.N.length a else none) = some t := ht
    split at ht
    · rename_i ka; exact ⟨ka, ht⟩
    · cases ht
  · obtain ⟨l, _, F⟩ := fnd e
    exact ⟨_, _, F⟩
  · obtain ⟨k, d, l, e1, e2, e3, e4, rfl⟩ := mkFns_at e
    obtain rfl : i = k := by omega
    obtain ⟨l', e3', F⟩ := fnd e2
    rw [e3] at e3'
    cases e3'
    refine ⟨d, e2, ?_, F.kp, fun n hn => ?_⟩
    · have fa : D.fA K i = ga K d.name := by unfold Ld.fA; rw [e2]
      rw [fa, ← e4]
      exact glo_ok X Gn (all_at x7 e2)
    · rw [List.length_map] at hn
      obtain ⟨dvl, b1, b2⟩ := hb.at e2 e3 K _ _ F n hn
      refine ⟨_, dvl, b1, b2, fun w => ?_⟩
      rw [List.length_map, ← List.map_drop]
      refine dvTs_rep ?_
      have q := all_at o4 e3
      rw [List.all_eq_true] at q ⊢
      exact fun z hz => q z (List.mem_of_mem_drop hz)
  · have q := List.all_eq_true.mp o3 (d, f) (List.mem_of_getElem? (i := i) (by rw [List.getElem?_zip_eq_some]; exact ⟨e1, e2⟩))
    obtain ⟨q, q3⟩ := ba q
    obtain ⟨q1, q2⟩ := ba q
    exact ⟨q1, scB_ok q2, of_decide_eq_true q3⟩
end
end MP
end

section
set_option Elab.async false
set_option linter.all false
set_option maxRecDepth 100000
set_option maxHeartbeats 0
/-! MP22: the law's end. -/
namespace MP
open PySem PySem.Spec PyProof.Rows L2 He
theorem cx_none' {P : Program} {w : World} {outer : List PySem.Env} {H : Hp} {s : Shared} {e : Value} {s' : Shared} (h : L2N.CX P w outer H s (fun _ _ _ => False) e s') {p : Prop} : p := by
  obtain ⟨_, _, _, _, _, _, _, _, _, _, _, _, h⟩ := h
  exact h.elim
/-- nothing is let out -/
theorem quiet {P : Program} {w : World} {K : PySem.W.Frag} {mg : Str → Option Value} {base : Heap} {k : Nat} {f : Addr} {fd : FuncData} {ps : List Str} {sp : Sp} (F : FnOk P w K mg base (L2N.CX P w) k f fd ps sp) :
    FnOk P w K mg base CX0 k f fd ps (fun vs H Q _ => sp vs H Q fun _ _ _ => False) := by
  refine ⟨fun vs H Q E h => F.len vs H Q _ h, fun A outer s H args us vs Q E hr e0 hb r h => codeAny_mono (F.run A outer s H args us vs Q _ hr e0 hb r h) fun r s' hq => ?_⟩
  cases r with
  | ok fl => (cases fl <;> exact hq)
  | error e => exact cx_none' hq
theorem law_F {D : Ld} {P : Program} {w : World} {n li : Nat} {dl : Df} {x : Str} (hok : D.okB = true) (hb : AllB D.defs D.dfl) (hbh : BindsOk D.hd []) (hl : D.defs[li]? = some dl) (hps : dl.ps = [x])
    (hbl : ∀ (kV doc pm : Value) (an : Option Addr) (cdv ct : Value) (us : List Value), us.length = dl.ps.length → bindArgs (PySem.W.fnOf dl.name dl.name dl.params dl.body dl.scope .none kV doc pm an cdv ct) ⟨us, []⟩ = pure (dl.ps.zip us)) (hdl : D.dfl[li]? = some [])
    (hlaw : ∀ ns : List Int, ns.length ≤ 63 → ∃ m, callN D.prog n li [.scr ns] [] = .ok (.bl true, false) m) (mg : Str → Option Value) (fa : Addr) (h : Heap) (Y : ∃ K : PySem.W.Frag, K.In h ∧ SaysX [] D.fn [] [] D.ex w h K) (Gn : h.Ns mainGlobals mg) (hm : mg dl.name = some (.ref fa)) :
    ∃ (K : PySem.W.Frag) (fd : FuncData) (sp : Sp), K.In h ∧ (∀ (s : Shared) (u : Value), BindsTo s fd ⟨[u], []⟩ [(x, u)]) ∧
      (∀ (H : Hp) (a : Addr) (ns : List Int), ns.length ≤ 63 → Only H → SqL K H a (ns.map V.int) → sp [.ref a] H (fun v _ => v = .bl true) fun _ _ _ => False) ∧
      ∀ base : Heap, K.In base → base.Ns mainGlobals mg → FnOk P w K mg base CX0 (n + 3) fa fd [x] sp := by
  obtain ⟨K, X, c⟩ := Y
  have G := fun base => gok (P := P) (base := base) hok hb hbh c X Gn
  have fA : D.fA K li = ga K dl.name := by unfold Ld.fA; rw [hl]
  have fae : fa = D.fA K li := by
    have hex := c.more
    unfold Ld.ex at hex
    obtain ⟨hex, _⟩ := ba hex
    obtain ⟨_, x7⟩ := ba hex
    have e := glo_ok X Gn (all_at x7 hl)
    rw [hm, ← fA] at e
    cases e; rfl
  subst fae
  obtain ⟨fd, F⟩ : ∃ fd, FunD K dl.name dl.name dl.params dl.body dl.scope [] [] (D.fA K li) fd := by
    have hm : Ld.dd dl [] ∈ D.fn := by
      unfold Ld.fn
      refine List.mem_cons_of_mem _ (List.mem_map.mpr ⟨(dl, []), ?_, rfl⟩)
      refine List.mem_of_getElem? (i := li) ?_
      rw [List.getElem?_zip_eq_some]
      exact ⟨hl, hdl⟩
    obtain ⟨fd, F⟩ := SaysD.defs c.t.d hm
    rw [fA]
    exact ⟨fd, F⟩
  refine ⟨K, fdOf K (D.fA K li), fun vs H Q _ => spT ⟨K, none⟩ (D.prog.at (D.cA K) n) li vs H Q fun _ _ _ => False, X, fun s u => ?_, fun H a ns hn _ hq => ?_, fun base _ _ => ?_⟩
  · have b := FunD.bindsA F hbl s [u] (by rw [hps]; rfl)
    rw [hps] at b
    rw [fdOf_eq F]
    exact b
  · obtain ⟨m, e⟩ := hlaw ns hn
    refine ⟨⟨H, [], fun _ => none⟩, [], [.scr ns], ⟨Sub.refl, rfl, fun i j a e => by simp at e, fun n a e => by simp at e, fun n a c e => by simp at e, fun a o e => by cases e⟩, .cons (.scr hq) .nil, ?_⟩
    show (callN D.prog n li [.scr ns] []).to _ _
    rw [e]
    intro w' H' le S v rv
    cases rv
    rfl
  · have q := all_ok (G base) n li dl hl
    rw [hps] at q
    exact quiet q
theorem binds0 {d : Df} (h : ∀ (kV doc pm : Value) (an : Option Addr) (cdv ct : Value) (us : List Value), us.length = d.ps.length → bindArgs (PySem.W.fnOf d.name d.name d.params d.body d.scope .none kV doc pm an cdv ct) ⟨us, []⟩ = pure (d.ps.zip us)) : BindsOk d [] := fun K f fd F n hn =>
  ⟨[], FunD.bindsN F h, by rw [List.drop_nil]; exact .nil⟩
theorem bindsD {d : Df} {q : Dv × T} {l : List (Dv × T)} (h : ∀ (T : Addr) (kV doc pm : Value) (an : Option Addr) (cdv ct : Value) (us its : List Value) (j : Nat), j ≤ (q :: l).length → us.length + ((q :: l).length - j) = d.ps.length → its.length = (q :: l).length →
    ∃ k, bindArgs (PySem.W.fnOf d.name d.name d.params d.body d.scope (.ref T) kV doc pm an cdv ct) ⟨us, []⟩ = seqItems? (.ref T) >>= k ∧ k (some its.toArray) = pure (d.ps.zip (us ++ its.drop j))) (hp : (q :: l).length ≤ d.ps.length) : BindsOk d (q :: l) := fun K f fd F n hn => by
  have e : ((q :: l).map fun z => z.1.v K).length = (q :: l).length := List.length_map _
  obtain ⟨ds, v, b⟩ := FunD.binds1 F (d.ps.length - n) ((q :: l).length - n) (by simp) (by rw [e]; omega) (fun T kV doc pm an cdv ct us its h1 h2 => h T kV doc pm an cdv ct us its ((q :: l).length - n) (by omega) (by rw [h1]; omega) (by rw [h2, e]))
  refine ⟨ds, b, ?_⟩
  rw [List.map_drop]
  exact v
end MP
end

section
set_option Elab.async false
set_option linter.all false
set_option maxRecDepth 100000
set_option maxHeartbeats 0
/-! MQ1: the evaluator over a store of which some cells are not known (dead), with names that are not set. -/
namespace MP
def OLe {α : Type} (o o' : Option α) : Prop := ∀ x, o = some x → o' = some x
theorem OLe.refl {α : Type} {o : Option α} : OLe o o := fun _ h => h
theorem OLe.none {α : Type} {o : Option α} : OLe (none : Option α) o := fun _ h => by cases h
theorem OLe.bind {α β : Type} {o o' : Option α} {f f' : α → Option β} (h : OLe o o') (hf : ∀ a, OLe (f a) (f' a)) : OLe (o.bind f) (o'.bind f') := by
  intro x e
  cases ho : o with
  | none => rw [ho] at e; cases e
  | some a => rw [ho] at e; rw [h a ho]; exact hf a x e
theorem OLe.map {α β : Type} {o o' : Option α} {f : α → β} (h : OLe o o') : OLe (o.map f) (o'.map f) := by
  intro x e
  cases ho : o with
  | none => rw [ho] at e; cases e
  | some a => rw [ho] at e; rw [h a ho]; exact e
/-- m' is m, or more -/
structure Le (hid : Nat → Option Cell) (m m' : Store) : Prop where
  len : m.length = m'.length
  hd : ∀ (n : Nat) (c : Cell), hid n = some c → m[n]? = some .dead ∧ m'[n]? = some c
  at_ : ∀ (n : Nat) (c : Cell), m[n]? = some c → c ≠ .dead → m'[n]? = some c
variable {hid : Nat → Option Cell}
theorem Le.app {m m' : Store} (h : Le hid m m') (c : Cell) : Le hid (m ++ [c]) (m' ++ [c]) := by
  refine ⟨by simp [h.len], fun n d e => ?_, fun n d e ne => ?_⟩
  · obtain ⟨h1, h2⟩ := h.hd n d e
    have hl : n < m.length := by
      by_cases q : n < m.length
      · exact q
      · rw [List.getElem?_eq_none (by omega)] at h1; cases h1
    rw [List.getElem?_append_left hl, List.getElem?_append_left (by rw [← h.len]; exact hl)]
    exact ⟨h1, h2⟩
  by_cases hn : n < m.length
  · rw [List.getElem?_append_left hn] at e
    rw [List.getElem?_append_left (by rw [← h.len]; exact hn)]
    exact h.at_ n d e ne
  · rw [List.getElem?_append_right (by omega)] at e
    rw [List.getElem?_append_right (by rw [← h.len]; omega), ← h.len]
    exact e
theorem Le.set {m m' : Store} (h : Le hid m m') (n : Nat) {c0 : Cell} (hl : m[n]? = some c0) (ne0 : c0 ≠ .dead) (c : Cell) : Le hid (m.set n c) (m'.set n c) := by
  refine ⟨by simp [h.len], fun k d e => ?_, fun k d e ne => ?_⟩
  · obtain ⟨h1, h2⟩ := h.hd k d e
    have hk : n ≠ k := fun q => by
      subst q
      rw [hl] at h1; cases h1; exact ne0 rfl
    rw [List.getElem?_set_ne hk, List.getElem?_set_ne hk]
    exact ⟨h1, h2⟩
  rw [List.getElem?_set] at e ⊢
  split at e
  · rename_i hk
    subst hk
    rw [if_pos rfl]
    rw [← h.len]
    exact e
  · rename_i hk
    rw [if_neg hk]
    exact h.at_ k d e ne
/-- env' has all that env has -/
structure LeE (env env' : Env) : Prop where
  len : env.length = env'.length
  at_ : ∀ (i : Nat) (t : T), env.get i = some t → env'.get i = some t
theorem LeE.refl {env : Env} : LeE env env := ⟨rfl, fun _ _ h => h⟩
theorem get_set {env : Env} {i j : Nat} {x : Option T} : Env.get (env.set i x) j = if i = j then (if i < env.length then x else none) else env.get j := by
  unfold Env.get
  rw [List.getElem?_set]
  split
  · split <;> simp_all
  · rfl
theorem LeE.set {env env' : Env} (h : LeE env env') (i : Nat) {x y : Option T} (hx : OLe x y) : LeE (env.set i x) (env'.set i y) := by
  refine ⟨by simp [h.len], fun j t e => ?_⟩
  rw [get_set] at e ⊢
  rw [← h.len]
  split at e
  · rename_i hj
    rw [if_pos hj]
    split at e
    · rename_i hl; rw [if_pos hl]; exact hx t e
    · cases e
  · rename_i hj
    rw [if_neg hj]
    exact h.at_ j t e
theorem LeE.wipe {env env' : Env} (h : LeE env env') : ∀ own : List Nat, LeE (MP.wipe env own) (MP.wipe env' own)
  | [] => h
  | i :: r => (LeE.wipe h r).set i .refl
theorem LeE.setAll : ∀ {is : List Nat} {ts : List T} {env env' : Env}, LeE env env' → ∀ {e1}, setAll env is ts = some e1 → ∃ e1', setAll env' is ts = some e1' ∧ LeE e1 e1'
  | [], [], _, env', h, e1, e => by simp only [MP.setAll, Option.some.injEq] at e; subst e; exact ⟨env', rfl, h⟩
  | [], _ :: _, _, _, _, _, e => by simp [MP.setAll] at e
  | _ :: _, [], _, _, _, _, e => by simp [MP.setAll] at e
  | i :: is, t :: ts, _, _, h, _, e => LeE.setAll (h.set i (.refl (o := some t))) (by simpa [MP.setAll] using e)
/-- r' is r, unless r is stuck -/
def Res.up {α : Type} (hid : Nat → Option Cell) (r r' : Res α) : Prop := match r with
  | .ok a m => ∃ m', r' = .ok a m' ∧ Le hid m m'
  | .exc c xs m => ∃ m', r' = .exc c xs m' ∧ Le hid m m'
  | .stuck => True
theorem up_bind {α β : Type} {r r' : Res α} {f f' : α → Store → Res β} (h : r.up hid r') (hf : ∀ a m m', Le hid m m' → (f a m).up hid (f' a m')) : (r.bind f).up hid (r'.bind f') := by
  cases r with
  | ok a m => obtain ⟨m', rfl, l⟩ := h; exact hf a m m' l
  | exc c xs m => obtain ⟨m', rfl, l⟩ := h; exact ⟨m', rfl, l⟩
  | stuck => trivial
theorem up_ofO {α : Type} {o o' : Option α} {m m' : Store} (h : OLe o o') (l : Le hid m m') : (Res.ofO o m).up hid (Res.ofO o' m') := by
  cases o with
  | none => trivial
  | some a => rw [h a rfl]; exact ⟨m', rfl, l⟩
theorem up_ok {α : Type} {a : α} {m m' : Store} (l : Le hid m m') : (Res.ok a m).up hid (Res.ok a m') := ⟨m', rfl, l⟩
section
variable {m m' : Store}
/-- by what stands at a cell -/
theorem obj_le {α : Type} {f : Store → T → Option α} (l : Le hid m m') (hc : ∀ t, (∀ n, t ≠ .obj n) → f m t = f m' t) (hn : ∀ n, (m[n]? = none ∨ m[n]? = some .dead) → f m (.obj n) = none) (hs : ∀ n c, m[n]? = some c → m'[n]? = some c → f m (.obj n) = f m' (.obj n)) (t : T) : OLe (f m t) (f m' t) := by
  cases t with
  | obj n =>
    cases e : m[n]? with
    | none => rw [hn n (.inl e)]; exact .none
    | some c =>
      by_cases hd : c = .dead
      · rw [hn n (.inr (by rw [e, hd]))]; exact .none
      · rw [hs n c e (l.at_ n c e hd)]; exact .refl
  | _ => rw [hc _ (fun n e => by cases e)]; exact .refl
theorem vwL_le (l : Le hid m m') (t : T) : OLe (vwL m t) (vwL m' t) := by
  refine obj_le (f := vwL) l (fun t h => ?_) (fun n h => ?_) (fun n c h h' => ?_) t
  · cases t <;> first | rfl | exact absurd rfl (h _)
  · rcases h with h | h <;> simp [vwL, h]
  · simp [vwL, h, h']
theorem vwD_le (l : Le hid m m') (t : T) : OLe (vwD m t) (vwD m' t) := by
  refine obj_le (f := vwD) l (fun t h => ?_) (fun n h => ?_) (fun n c h h' => ?_) t
  · cases t <;> first | rfl | exact absurd rfl (h _)
  · rcases h with h | h <;> simp [vwD, h]
  · simp [vwD, h, h']
theorem dat_le (l : Le hid m m') (t : T) : OLe (dat m t) (dat m' t) := by
  refine obj_le (f := dat) l (fun t h => ?_) (fun n h => ?_) (fun n c h h' => ?_) t
  · cases t <;> first | rfl | exact absurd rfl (h _)
  · rcases h with h | h <;> simp [dat, res, h, T.ok, T.okN]
  · simp [dat, res, h, h']
theorem truth_le (l : Le hid m m') (t : T) : OLe (truth m t) (truth m' t) := by
  refine obj_le (f := truth) l (fun t h => ?_) (fun n h => ?_) (fun n c h h' => ?_) t
  · cases t <;> first | rfl | exact absurd rfl (h _)
  · rcases h with h | h <;> simp [truth, vwL, vwD, h]
  · simp [truth, vwL, vwD, h, h']
theorem items_le (l : Le hid m m') (t : T) : OLe (itemsT m t) (itemsT m' t) := by
  refine obj_le (f := itemsT) l (fun t h => ?_) (fun n h => ?_) (fun n c h h' => ?_) t
  · cases t <;> first | rfl | exact absurd rfl (h _)
  · rcases h with h | h <;> simp [itemsT, vwL, vwD, h]
  · simp [itemsT, vwL, vwD, h, h']
theorem typN_le (l : Le hid m m') (t : T) : OLe (typN m t) (typN m' t) := by
  refine obj_le (f := typN) l (fun t h => ?_) (fun n h => ?_) (fun n c h h' => ?_) t
  · cases t <;> first | rfl | exact absurd rfl (h _)
  · rcases h with h | h <;> simp [typN, h]
  · simp [typN, h, h']
theorem walkOf_le (l : Le hid m m') (t : T) : OLe (walkOf m t) (walkOf m' t) := by
  refine obj_le (f := walkOf) l (fun t h => ?_) (fun n h => ?_) (fun n c h h' => ?_) t
  · cases t <;> first | rfl | exact absurd rfl (h _)
  · rcases h with h | h <;> simp [walkOf, h]
  · simp [walkOf, h, h']
theorem slice_le (l : Le hid m m') (lo hi : Option Int) (t : T) : OLe (sliceT m t lo hi) (sliceT m' t lo hi) := by
  refine obj_le (f := fun m t => sliceT m t lo hi) l (fun t h => ?_) (fun n h => ?_) (fun n c h h' => ?_) t
  · cases t <;> first | rfl | exact absurd rfl (h _)
  · rcases h with h | h <;> simp [sliceT, vwL, h]
  · simp [sliceT, vwL, h, h']
theorem idx_le (l : Le hid m m') (k t : T) : OLe (idxT m t k) (idxT m' t k) := by
  refine obj_le (f := fun m t => idxT m t k) l (fun t h => ?_) (fun n h => ?_) (fun n c h h' => ?_) t
  · cases t <;> cases k <;> first | rfl | exact absurd rfl (h _)
  · rcases h with h | h <;> cases k <;> simp [idxT, vwL, vwD, h]
  · cases k <;> simp [idxT, vwL, vwD, h, h']
theorem memL_le (l : Le hid m m') (x : T) (ys : List T) : OLe (memL m x ys) (memL m' x ys) := OLe.bind (dat_le l x) fun a => .refl
def both {α β γ : Type} (g : α → β → Option γ) : Option α → Option β → Option γ
  | some a, some b => g a b
  | _, _ => none
def one1 {α β : Type} (g : α → Option β) : Option α → Option β
  | some a => g a
  | none => none
theorem two_le {α β γ : Type} {o o' : Option α} {p p' : Option β} {g : α → β → Option γ} (h : OLe o o') (k : OLe p p') : OLe (both g o p) (both g o' p') := by
  cases o with
  | none => exact .none
  | some a =>
    cases p with
    | none => exact .none
    | some b => rw [h a rfl, k b rfl]; exact .refl
theorem map1_le {α β : Type} {o o' : Option α} {g : α → Option β} (h : OLe o o') : OLe (one1 g o) (one1 g o') := by
  cases o with
  | none => exact .none
  | some a => rw [h a rfl]; exact .refl
theorem bop_both (x y : T) : (∀ m, bopT m .add x y = both (fun a b => if a.length + b.length ≤ LINE then some (T.lst (a ++ b)) else none) (vwL m x) (vwL m y)) ∨ ∀ m m', bopT m .add x y = bopT m' .add x y := by
  cases x <;> cases y <;> first
    | exact .inr fun _ _ => rfl
    | (refine .inl fun m => ?_
       simp only [bopT]
       split <;> simp_all [both])
theorem bop_le (l : Le hid m m') (o : Bop) (x y : T) : OLe (bopT m o x y) (bopT m' o x y) := by
  cases o <;> first
    | (cases x <;> cases y <;> exact .refl)
    | skip
  rcases bop_both x y with h | h
  · rw [h m, h m']; exact two_le (vwL_le l x) (vwL_le l y)
  · rw [h m m']; exact .refl
theorem mem_le (l : Le hid m m') (x y : T) : OLe (memT m x y) (memT m' x y) := by
  cases y with
  | lst ys => exact memL_le l x ys
  | obj n =>
    cases e : m[n]? with
    | none => intro r h; simp [memT, vwL, vwD, e] at h
    | some c =>
      cases c with
      | dead => intro r h; simp [memT, vwL, vwD, e] at h
      | lst ys =>
        have e' := l.at_ n _ e (by simp)
        have h := memL_le l x ys
        simpa [memT, vwL, e, e'] using h
      | dct ks vs =>
        have e' := l.at_ n _ e (by simp)
        intro r h
        simpa [memT, vwL, vwD, e, e'] using h
      | ins c fs => intro r h; simp [memT, vwL, vwD, e] at h
  | _ => exact .refl
theorem cmp_le (l : Le hid m m') (o : Cop) (x y : T) : OLe (cmpT m o x y) (cmpT m' o x y) := by
  cases o with
  | eq => exact OLe.bind (dat_le l x) fun a => OLe.bind (dat_le l y) fun b => .refl
  | ne => exact OLe.bind (dat_le l x) fun a => OLe.bind (dat_le l y) fun b => .refl
  | isin => exact mem_le l x y
  | notin => exact OLe.map (mem_le l x y)
  | _ => exact .refl
theorem isTy_le {sub : Nat → Nat → Option Bool} (l : Le hid m m') (t : T) (y : Ty) : OLe (isTy sub m t y) (isTy sub m' t y) := by
  cases y <;> first
    | exact OLe.map (typN_le l t)
    | exact .refl
theorem isTys_le {sub : Nat → Nat → Option Bool} (l : Le hid m m') (t : T) : ∀ ys, OLe (isTys sub m t ys) (isTys sub m' t ys)
  | [] => .refl
  | y :: ys => OLe.bind (isTy_le l t y) fun b => by
    cases b with
    | true => exact .refl
    | false => exact isTys_le l t ys
theorem len_le (l : Le hid m m') (x : T) : OLe (biT m .len [x]) (biT m' .len [x]) := by
  refine obj_le (f := fun m x => biT m .len [x]) l (fun t h => ?_) (fun n h => ?_) (fun n c h h' => ?_) x
  · cases t <;> first | rfl | exact absurd rfl (h _)
  · rcases h with h | h <;> simp [biT, vwL, vwD, h]
  · simp [biT, vwL, vwD, h, h']
theorem bi1_le (l : Le hid m m') (f : Bi) (x : T) : OLe (biT m f [x]) (biT m' f [x]) := by
  have vl := vwL_le l x
  have vd := vwD_le l x
  have vi := items_le l x
  cases f with
  | len => exact len_le l x
  | bool => cases x <;> first | exact .refl | exact OLe.map (vwL_le l _)
  | list => cases x <;> first | exact .refl | exact OLe.map (vwL_le l _)
  | tuple => cases x <;> first | exact .refl | exact OLe.map (vwL_le l _)
  | dict => exact OLe.map vd
  | sorted =>
    intro r h
    cases hv : vwL m x with
    | none => simp [biT, hv] at h
    | some a => simp only [biT, hv, vl a hv] at h ⊢; exact h
  | sum =>
    intro r h
    cases hv : vwL m x with
    | none => cases x <;> simp [biT, hv] at h
    | some a => cases x <;> simp only [biT, hv, vl a hv] at h ⊢ <;> exact h
  | max =>
    intro r h
    cases hv : vwL m x with
    | none => cases x <;> simp [biT, hv] at h
    | some a => cases x <;> simp only [biT, hv, vl a hv] at h ⊢ <;> exact h
  | min =>
    intro r h
    cases hv : vwL m x with
    | none => cases x <;> simp [biT, hv] at h
    | some a => cases x <;> simp only [biT, hv, vl a hv] at h ⊢ <;> exact h
  | _ => cases x <;> exact .refl
theorem bi_le (l : Le hid m m') (f : Bi) (xs : List T) : OLe (biT m f xs) (biT m' f xs) := by
  match xs with
  | [] => cases f <;> exact .refl
  | [x] => exact bi1_le l f x
  | [x, y] => cases f <;> first | exact .refl | (cases x <;> cases y <;> exact .refl)
  | _ :: _ :: _ :: _ => cases f <;> first | exact .refl | (intro r h; simp [biT] at h)
theorem meth_le (l : Le hid m m') (f : Mt) (o : T) (xs : List T) : OLe (methT m f o xs) (methT m' f o xs) := by
  match xs with
  | [] => cases f <;> exact .refl
  | [x] =>
    cases f with
    | index =>
      intro r e
      cases hv : vwL m o with
      | none => simp [methT, hv] at e
      | some ys =>
        cases hd : dat m x with
        | none => simp [methT, hv, hd] at e
        | some x' => simp only [methT, hv, hd, vwL_le l o ys hv, dat_le l x x' hd] at e ⊢; exact e
    | join =>
      have h := vwL_le l x
      cases o with
      | str sep =>
        intro r e
        cases hv : vwL m x with
        | none => simp [methT, hv] at e
        | some ys => simp only [methT, hv, h ys hv] at e ⊢; exact e
      | _ => exact .refl
    | get => 
      have h := vwD_le l o
      intro r e
      cases hv : vwD m o with
      | none => simp [methT, hv] at e
      | some d => simp only [methT, hv, h d hv] at e ⊢; exact e
    | _ => exact .refl
  | [x, y] =>
    cases f with
    | get2 => 
      have h := vwD_le l o
      intro r e
      cases hv : vwD m o with
      | none => simp [methT, hv] at e
      | some d => simp only [methT, hv, h d hv] at e ⊢; exact e
    | _ => exact .refl
  | _ :: _ :: _ :: _ => cases f <;> exact .refl
theorem mut_le (l : Le hid m m') (f : Mt) (c : Cell) (xs : List T) : OLe (mutT m f c xs) (mutT m' f c xs) := by
  cases f with
  | extend =>
    cases c with
    | lst ys =>
      match xs with
      | [x] =>
        intro r e
        cases hv : vwL m x with
        | none => simp [mutT, hv] at e
        | some zs => simp only [mutT, hv, vwL_le l x zs hv] at e ⊢; exact e
      | [] => exact .refl
      | _ :: _ :: _ => exact .refl
    | _ => exact .refl
  | _ => cases c <;> (rcases xs with _ | ⟨x, _ | ⟨y, _ | ⟨z, zs⟩⟩⟩) <;> first | exact .refl | (cases x <;> exact .refl) | (intro r h; simp [mutT] at h)
theorem mutR_le (l : Le hid m m') (f : Mt) (x : T) (xs : List T) : (mutR m f x xs).up hid (mutR m' f x xs) := by
  cases x with
  | obj n =>
    cases e : m[n]? with
    | none => simp only [mutR, e]; trivial
    | some c =>
      by_cases hd : c = .dead
      · subst hd
        have : mutT m f .dead xs = none := by cases f <;> rfl
        simp only [mutR, e, this]; trivial
      · have e' := l.at_ n c e hd
        simp only [mutR, e, e']
        have h := mut_le l f c xs
        cases hm : mutT m f c xs with
        | none => trivial
        | some p => obtain ⟨y, c'⟩ := p; rw [h _ hm]; exact ⟨_, rfl, l.set n e hd c'⟩
  | _ => trivial
theorem mtOk_le (l : Le hid m m') (f : Mt) (o : T) (h : mtOk m f o = true) : mtOk m' f o = true := by
  cases f <;> first
    | exact h
    | (obtain ⟨a, e⟩ := Option.isSome_iff_exists.mp (show (vwL m o).isSome = true from h); show (vwL m' o).isSome = true; rw [vwL_le l o a e]; rfl)
    | (obtain ⟨a, e⟩ := Option.isSome_iff_exists.mp (show (vwD m o).isSome = true from h); show (vwD m' o).isSome = true; rw [vwD_le l o a e]; rfl)
theorem wok_le (l : Le hid m m') (w : Walk) (h : w.ok m = true) : w.ok m' = true := by
  unfold Walk.ok at h ⊢
  cases hw : w.at? with
  | none => rfl
  | some n =>
    rw [hw] at h
    simp only at h ⊢
    cases e : m[n]? with
    | none => rw [e] at h; cases h
    | some c =>
      rw [e] at h
      cases c with
      | dead => cases h
      | lst xs => rw [l.at_ n _ e (by simp)]; exact h
      | dct ks vs => rw [l.at_ n _ e (by simp)]; exact h
      | ins c fs => cases h
theorem tgt_le (l : Le hid m m') {env env' : Env} (le : LeE env env') (g : Tgt) (t : T) {e1 : Env} (h : g.set m t env = some e1) : ∃ e1', g.set m' t env' = some e1' ∧ LeE e1 e1' := by
  cases g with
  | one i => simp only [Tgt.set, Option.some.injEq] at h; subst h; exact ⟨_, rfl, le.set i .refl⟩
  | many is =>
    have fall : ∀ t, ((vwL m t).bind fun xs => setAll env is xs) = some e1 → ∃ e1', ((vwL m' t).bind fun xs => setAll env' is xs) = some e1' ∧ LeE e1 e1' := fun t h => by
      obtain ⟨xs, h1, h2⟩ := Option.bind_eq_some_iff.mp h
      obtain ⟨e1', h3, h4⟩ := le.setAll h2
      exact ⟨e1', by rw [vwL_le l t xs h1]; exact h3, h4⟩
    cases t with
    | tup xs => exact le.setAll h
    | non => exact fall .non h
    | bl b => exact fall (.bl b) h
    | int i => exact fall (.int i) h
    | str s => exact fall (.str s) h
    | lst xs => exact fall (.lst xs) h
    | dct ks vs => exact fall (.dct ks vs) h
    | set xs => exact fall (.set xs) h
    | obj n => exact fall (.obj n) h
    | exc c xs => exact fall (.exc c xs) h
    | scr xs => exact fall (.scr xs) h
end
end MP
end

section
set_option Elab.async false
set_option linter.all false
set_option maxRecDepth 100000
set_option maxHeartbeats 0
/-! MQ2: .. the evaluator itself. -/
namespace MP
variable {hid : Nat → Option Cell}
structure CLe (hid : Nat → Option Cell) (C C' : Ctx) : Prop where
  call : ∀ f ts m m', Le hid m m' → (C.call f ts m).up hid (C'.call f ts m')
  fuel : C.fuel = C'.fuel
  sub : C.sub = C'.sub
  meth : C.meth = C'.meth
  ini : C.ini = C'.ini
  rf : C.rf = C'.rf
section
variable {m m' : Store}
theorem compL_up {w : Walk} {f f' : T → Store → Res (Option T)} (h : ∀ t m m', Le hid m m' → (f t m).up hid (f' t m')) : ∀ (xs : List T) {m m' : Store}, Le hid m m' → (compL w f xs m).up hid (compL w f' xs m')
  | [], m, m', l => by
    unfold compL
    by_cases hw : w.ok m = true
    · rw [if_pos hw, if_pos (wok_le l w hw)]; exact up_ok l
    · rw [if_neg hw]; trivial
  | t :: r, m, m', l => by
    unfold compL
    by_cases hw : w.ok m = true
    · rw [if_pos hw, if_pos (wok_le l w hw)]
      have h1 := h t m m' l
      cases he : f t m with
      | ok o m1 =>
        rw [he] at h1
        obtain ⟨m1', e1, l1⟩ := h1
        rw [e1]
        simp only
        have h2 := compL_up (w := w) h r l1
        cases he2 : compL w f r m1 with
        | ok ys m2 => rw [he2] at h2; obtain ⟨m2', e2, l2⟩ := h2; rw [e2]; exact up_ok l2
        | exc c xs m2 => trivial
        | stuck => trivial
      | exc c xs m1 => trivial
      | stuck => trivial
    · rw [if_neg hw]; trivial
theorem compLX_up {w : Walk} {f f' : T → Store → Res (Option T)} (h : ∀ t m m', Le hid m m' → (f t m).up hid (f' t m')) : ∀ (xs : List T) {m m' : Store}, Le hid m m' → (compLX w f xs m).up hid (compLX w f' xs m')
  | [], m, m', l => by
    unfold compLX
    by_cases hw : w.ok m = true
    · rw [if_pos hw, if_pos (wok_le l w hw)]; exact up_ok l
    · rw [if_neg hw]; trivial
  | t :: r, m, m', l => by
    unfold compLX
    by_cases hw : w.ok m = true
    · rw [if_pos hw, if_pos (wok_le l w hw)]
      have h1 := h t m m' l
      cases he : f t m with
      | ok o m1 =>
        rw [he] at h1
        obtain ⟨m1', e1, l1⟩ := h1
        rw [e1]
        simp only
        have h2 := compLX_up (w := w) h r l1
        cases he2 : compLX w f r m1 with
        | ok ys m2 => rw [he2] at h2; obtain ⟨m2', e2, l2⟩ := h2; rw [e2]; exact up_ok l2
        | exc c xs m2 => rw [he2] at h2; obtain ⟨m2', e2, l2⟩ := h2; rw [e2]; exact ⟨_, rfl, l2⟩
        | stuck => trivial
      | exc c xs m1 => rw [he] at h1; obtain ⟨m1', e1, l1⟩ := h1; rw [e1]; exact ⟨_, rfl, l1⟩
      | stuck => trivial
    · rw [if_neg hw]; trivial
theorem compLs_up {w : Walk} {f f' : T → Store → Res (List T)} (h : ∀ t m m', Le hid m m' → (f t m).up hid (f' t m')) : ∀ (xs : List T) {m m' : Store}, Le hid m m' → (compLs w f xs m).up hid (compLs w f' xs m')
  | [], m, m', l => by
    unfold compLs
    by_cases hw : w.ok m = true
    · rw [if_pos hw, if_pos (wok_le l w hw)]; exact up_ok l
    · rw [if_neg hw]; trivial
  | t :: r, m, m', l => by
    unfold compLs
    by_cases hw : w.ok m = true
    · rw [if_pos hw, if_pos (wok_le l w hw)]
      have h1 := h t m m' l
      cases he : f t m with
      | ok o m1 =>
        rw [he] at h1
        obtain ⟨m1', e1, l1⟩ := h1
        rw [e1]
        simp only
        have h2 := compLs_up (w := w) h r l1
        cases he2 : compLs w f r m1 with
        | ok ys m2 => rw [he2] at h2; obtain ⟨m2', e2, l2⟩ := h2; rw [e2]; exact up_ok l2
        | exc c xs m2 => trivial
        | stuck => trivial
      | exc c xs m1 => trivial
      | stuck => trivial
    · rw [if_neg hw]; trivial
theorem compD_up {w : Walk} {f f' : T → Store → Res (Option (T × T))} (h : ∀ t m m', Le hid m m' → (f t m).up hid (f' t m')) : ∀ (xs : List T) (d : List T × List T) {m m' : Store}, Le hid m m' → (compD w f xs d m).up hid (compD w f' xs d m')
  | [], d, m, m', l => by
    unfold compD
    by_cases hw : w.ok m = true
    · rw [if_pos hw, if_pos (wok_le l w hw)]; exact up_ok l
    · rw [if_neg hw]; trivial
  | t :: r, d, m, m', l => by
    unfold compD
    by_cases hw : w.ok m = true
    · rw [if_pos hw, if_pos (wok_le l w hw)]
      have h1 := h t m m' l
      cases he : f t m with
      | ok o m1 =>
        rw [he] at h1
        obtain ⟨m1', e1, l1⟩ := h1
        rw [e1]
        cases o with
        | none => exact compD_up (w := w) h r d l1
        | some p =>
          obtain ⟨k, v⟩ := p
          simp only
          split
          · exact compD_up (w := w) h r _ l1
          · trivial
      | exc c xs m1 => trivial
      | stuck => trivial
    · rw [if_neg hw]; trivial
theorem set_up {α : Type} {g : Tgt} {t : T} {env env' : Env} {f f' : Env → Store → Res α} (l : Le hid m m') (le : LeE env env') (h : ∀ e1 e1', LeE e1 e1' → (f e1 m).up hid (f' e1' m')) : ((Res.ofO (g.set m t env) m).bind f).up hid ((Res.ofO (g.set m' t env') m').bind f') := by
  cases e : g.set m t env with
  | none => trivial
  | some e1 =>
    obtain ⟨e1', h1, h2⟩ := tgt_le l le g t e
    rw [h1]
    exact h e1 e1' h2
theorem short_up (xs : List T) (l : Le hid m m') : (shortL xs m).up hid (shortL xs m') := by
  unfold shortL
  split
  · exact up_ok l
  · trivial
end
section
variable {C C' : Ctx}
mutual
theorem eval_up (c : CLe hid C C') : ∀ (e : E) {env env' : Env} {m m' : Store}, LeE env env' → Le hid m m' → (eval C e env m).up hid (eval C' e env' m')
  | .cst t, _, _, _, _, le, l => up_ok l
  | .glo _ t, _, _, _, _, le, l => up_ok l
  | .var i, _, _, _, _, le, l => up_ofO (le.at_ i) l
  | .bin o a b, _, _, _, _, le, l => up_bind (eval_up c a le l) fun x m m' l => up_bind (eval_up c b le l) fun y m m' l => up_ofO (bop_le l o x y) l
  | .neg a, _, _, _, _, le, l => up_bind (eval_up c a le l) fun x m m' l => by
    cases x <;> first | trivial | exact up_ok l
  | .cmp o a b, _, _, _, _, le, l => up_bind (eval_up c a le l) fun x m m' l => up_bind (eval_up c b le l) fun y m m' l => up_ofO (OLe.map (cmp_le l o x y)) l
  | .chain o p a b d, _, _, _, _, le, l => up_bind (eval_up c a le l) fun x m m' l => up_bind (eval_up c b le l) fun y m m' l => up_bind (up_ofO (cmp_le l o x y) l) fun r m m' l => by
    cases r with
    | true => exact up_bind (eval_up c d le l) fun z m m' l => up_ofO (OLe.map (cmp_le l p y z)) l
    | false => exact up_ok l
  | .and a b, _, _, _, _, le, l => up_bind (eval_up c a le l) fun x m m' l => up_bind (up_ofO (truth_le l x) l) fun r m m' l => by
    cases r with
    | true => exact eval_up c b le l
    | false => exact up_ok l
  | .or a b, _, _, _, _, le, l => up_bind (eval_up c a le l) fun x m m' l => up_bind (up_ofO (truth_le l x) l) fun r m m' l => by
    cases r with
    | false => exact eval_up c b le l
    | true => exact up_ok l
  | .not a, _, _, _, _, le, l => up_bind (eval_up c a le l) fun x m m' l => up_bind (up_ofO (truth_le l x) l) fun r m m' l => up_ok l
  | .ite d a b, _, _, _, _, le, l => up_bind (eval_up c d le l) fun x m m' l => up_bind (up_ofO (truth_le l x) l) fun r m m' l => by
    cases r with
    | true => exact eval_up c a le l
    | false => exact eval_up c b le l
  | .list es, _, _, _, _, le, l => up_bind (evals_up c es le l) fun xs m m' l => short_up xs l
  | .tup es, _, _, _, _, le, l => up_bind (evals_up c es le l) fun xs m m' l => by
    split
    · exact up_ok l
    · trivial
  | .dct ks vs, _, _, _, _, le, l => up_bind (evals_up c ks le l) fun xs m m' l => up_bind (evals_up c vs le l) fun ys m m' l => trivial
  | .idx a k, _, _, _, _, le, l => up_bind (eval_up c a le l) fun x m m' l => up_bind (eval_up c k le l) fun y m m' l => up_ofO (idx_le l y x) l
  | .slice a lo hi, _, _, _, _, le, l => up_bind (eval_up c a le l) fun x m m' l => up_bind (eval_up c lo le l) fun y m m' l => up_bind (up_ofO .refl l) fun i m m' l => up_bind (eval_up c hi le l) fun z m m' l => up_bind (up_ofO .refl l) fun j m m' l => up_ofO (slice_le l i j x) l
  | .comp own tg it d e, _, _, _, _, le, l => by
    refine up_bind (evalI_up c it le l) fun w m m' l => up_bind ?_ fun xs m m' l => short_up xs l
    refine compL_up (w := w) (fun t m m' l => ?_) w.xs l
    refine set_up l (le.wipe own) fun e1 e1' le1 => ?_
    refine up_bind (eval_up c d le1 l) fun x m m' l => up_bind (up_ofO (truth_le l x) l) fun r m m' l => ?_
    cases r with
    | true => exact up_bind (eval_up c e le1 l) fun y m m' l => up_ok l
    | false => exact up_ok l
  | .compX own tg it d e, _, _, _, _, le, l => by
    refine up_bind (evalI_up c it le l) fun w m m' l => ?_
    by_cases hL : w.xs.length ≤ LINE
    rotate_left
    · rw [if_neg hL]; trivial
    rw [if_pos hL, if_pos hL]
    refine up_bind ?_ fun xs m m' l => short_up xs l
    refine compLX_up (w := w) (fun t m m' l => ?_) w.xs l
    refine set_up l (le.wipe own) fun e1 e1' le1 => ?_
    refine up_bind (eval_up c d le1 l) fun x m m' l => up_bind (up_ofO (truth_le l x) l) fun r m m' l => ?_
    cases r with
    | true => exact up_bind (eval_up c e le1 l) fun y m m' l => up_ok l
    | false => exact up_ok l
  | .comp2 own tg it d own2 tg2 it2 d2 e, _, _, _, _, le, l => by
    refine up_bind (evalI_up c it le l) fun w m m' l => up_bind ?_ fun xs m m' l => short_up xs l
    refine compLs_up (w := w) (fun t m m' l => ?_) w.xs l
    refine set_up l (le.wipe own) fun e1 e1' le1 => ?_
    refine up_bind (eval_up c d le1 l) fun x m m' l => up_bind (up_ofO (truth_le l x) l) fun r m m' l => ?_
    cases r with
    | true =>
      refine up_bind (evalI_up c it2 le1 l) fun w2 m m' l => ?_
      refine compL_up (w := w2) (fun t m m' l => ?_) w2.xs l
      refine set_up l (le1.wipe own2) fun e2 e2' le2 => ?_
      refine up_bind (eval_up c d2 le2 l) fun x m m' l => up_bind (up_ofO (truth_le l x) l) fun r m m' l => ?_
      cases r with
      | true => exact up_bind (eval_up c e le2 l) fun y m m' l => up_ok l
      | false => exact up_ok l
    | false => exact up_ok l
  | .scomp own tg it d e, _, _, _, _, le, l => by
    refine up_bind (evalI_up c it le l) fun w m m' l => up_bind ?_ fun xs m m' l => ?_
    · refine compL_up (w := w) (fun t m m' l => ?_) w.xs l
      refine set_up l (le.wipe own) fun e1 e1' le1 => ?_
      refine up_bind (eval_up c d le1 l) fun x m m' l => up_bind (up_ofO (truth_le l x) l) fun r m m' l => ?_
      cases r with
      | true => exact up_bind (eval_up c e le1 l) fun y m m' l => up_ok l
      | false => exact up_ok l
    · split
      · exact up_ok l
      · trivial
  | .dcomp own tg it d k v, _, _, _, _, le, l => by
    refine up_bind (evalI_up c it le l) fun w m m' l => up_bind ?_ fun xs m m' l => ?_
    · refine compD_up (w := w) (fun t m m' l => ?_) w.xs ([], []) l
      refine set_up l (le.wipe own) fun e1 e1' le1 => ?_
      refine up_bind (eval_up c d le1 l) fun x m m' l => up_bind (up_ofO (truth_le l x) l) fun r m m' l => ?_
      cases r with
      | true => exact up_bind (eval_up c k le1 l) fun y m m' l => up_bind (eval_up c v le1 l) fun z m m' l => up_ok l
      | false => exact up_ok l
    · split
      · exact up_ok l
      · trivial
  | .callF f args ds, _, _, _, _, le, l => up_bind (evals_up c args le l) fun xs m m' l => up_bind (c.call f (xs ++ ds) m m' l) fun r m m' l => up_ok l
  | .callB f args, _, _, _, _, le, l => up_bind (evals_up c args le l) fun xs m m' l => up_ofO (bi_le l f xs) l
  | .listI it, _, _, _, _, le, l => up_bind (evalI_up c it le l) fun w m m' l => short_up w.xs l
  | .isinst a ys, _, _, _, _, le, l => up_bind (eval_up c a le l) fun x m m' l => up_ofO (OLe.map (by rw [← c.sub]; exact isTys_le l x ys)) l
  | .meth f o args, _, _, _, _, le, l => up_bind (eval_up c o le l) fun x m m' l => by
    by_cases h : mtOk m f x = true
    · rw [if_pos h, if_pos (mtOk_le l f x h)]
      exact up_bind (evals_up c args le l) fun xs m m' l => up_ofO (meth_le l f x xs) l
    · rw [if_neg h]; trivial
  | .mut f o args, _, _, _, _, le, l => up_bind (eval_up c o le l) fun x m m' l => by
    by_cases h : mtOk m f x = true
    · rw [if_pos h, if_pos (mtOk_le l f x h)]
      exact up_bind (evals_up c args le l) fun xs m m' l => mutR_le l f x xs
    · rw [if_neg h]; trivial
  | .callM f o args, _, _, _, _, le, l => up_bind (eval_up c o le l) fun x m m' l => by
    cases x <;> first | trivial | skip
    rename_i n
    cases e : m[n]? with
    | none => simp only [e]; trivial
    | some cl =>
      cases cl with
      | ins k fs =>
        simp only [e, l.at_ n _ e (by simp), ← c.meth]
        cases C.meth k f with
        | none => trivial
        | some g => exact up_bind (evals_up c args le l) fun xs m m' l => up_bind (c.call g _ m m' l) fun r m m' l => up_ok l
      | _ => simp only [e]; trivial
  | .new k args, _, _, _, _, le, l => up_bind (evals_up c args le l) fun xs m m' l => by
    rw [← c.ini, ← l.len]
    cases C.ini k with
    | none => trivial
    | some g => exact up_bind (c.call g _ _ _ (l.app _)) fun r m m' l => up_ok l
  | .attr o f, _, _, _, _, le, l => up_bind (eval_up c o le l) fun x m m' l => by
    cases x <;> first | trivial | exact up_ofO .refl l | skip
    rename_i n
    cases e : m[n]? with
    | none => simp only [e]; trivial
    | some cl =>
      cases cl with
      | ins k fs => simp only [e, l.at_ n _ e (by simp)]; exact up_ofO .refl l
      | _ => simp only [e]; trivial
theorem evals_up (c : CLe hid C C') : ∀ (es : EL) {env env' : Env} {m m' : Store}, LeE env env' → Le hid m m' → (evals C es env m).up hid (evals C' es env' m')
  | .nil, _, _, _, _, le, l => up_ok l
  | .cons e r, _, _, _, _, le, l => up_bind (eval_up c e le l) fun x m m' l => up_bind (evals_up c r le l) fun xs m m' l => up_ok l
theorem evalI_up (c : CLe hid C C') : ∀ (it : It) {env env' : Env} {m m' : Store}, LeE env env' → Le hid m m' → (evalI C it env m).up hid (evalI C' it env' m')
  | .of e, _, _, _, _, le, l => up_bind (eval_up c e le l) fun x m m' l => up_ofO (walkOf_le l x) l
  | .rng a, _, _, _, _, le, l => up_bind (eval_up c a le l) fun x m m' l => by
    cases x <;> first | trivial | skip
    simp only
    split
    · exact up_ok l
    · trivial
  | .rng2 a b, _, _, _, _, le, l => up_bind (eval_up c a le l) fun x m m' l => up_bind (eval_up c b le l) fun y m m' l => by
    cases x <;> cases y <;> first | trivial | skip
    simp only
    split
    · exact up_ok l
    · trivial
  | .rng3 a b d, _, _, _, _, le, l => up_bind (eval_up c a le l) fun x m m' l => up_bind (eval_up c b le l) fun y m m' l => up_bind (eval_up c d le l) fun z m m' l => by
    cases x <;> cases y <;> cases z <;> first | trivial | skip
    simp only
    split
    · exact up_ok l
    · trivial
  | .rev e, _, _, _, _, le, l => up_bind (eval_up c e le l) fun x m m' l => by
    cases x <;> first | trivial | exact up_ok l
  | .zip a b, _, _, _, _, le, l => up_bind (eval_up c a le l) fun x m m' l => up_bind (eval_up c b le l) fun y m m' l => by
    cases x <;> cases y <;> first | trivial | exact up_ok l
end
end
end MP
end

section
set_option Elab.async false
set_option linter.all false
set_option maxRecDepth 100000
set_option maxHeartbeats 0
/-! MQ3: .. statements, defs. -/
namespace MP
variable {hid : Nat → Option Cell}
def Out.up (hid : Nat → Option Cell) (o o' : Out) : Prop := match o with
  | .nxt env m => ∃ env' m', o' = .nxt env' m' ∧ LeE env env' ∧ Le hid m m'
  | .brk env m => ∃ env' m', o' = .brk env' m' ∧ LeE env env' ∧ Le hid m m'
  | .cnt env m => ∃ env' m', o' = .cnt env' m' ∧ LeE env env' ∧ Le hid m m'
  | .ret t new m => ∃ m', o' = .ret t new m' ∧ Le hid m m'
  | .exc c xs env m => ∃ env' m', o' = .exc c xs env' m' ∧ LeE env env' ∧ Le hid m m'
  | .stuck => True
theorem nxt_up {env env' : Env} {m m' : Store} (le : LeE env env') (l : Le hid m m') : (Out.nxt env m).up hid (.nxt env' m') := ⟨_, _, rfl, le, l⟩
theorem out_up {α : Type} {r r' : Res α} {env env' : Env} {f f' : α → Store → Out} (h : r.up hid r') (le : LeE env env') (hf : ∀ a m m', Le hid m m' → (f a m).up hid (f' a m')) : (r.out env f).up hid (r'.out env' f') := by
  cases r with
  | ok a m => obtain ⟨m', rfl, l⟩ := h; exact hf a m m' l
  | exc c xs m => obtain ⟨m', rfl, l⟩ := h; exact ⟨_, _, rfl, le, l⟩
  | stuck => trivial
section
variable {C C' : Ctx}
theorem new_up (c : CLe hid C C') (e : E) {env env' : Env} {m m' : Store} (le : LeE env env') (l : Le hid m m') : (evalNew C e env m).up hid (evalNew C' e env' m') := by
  cases e with
  | list es => exact up_bind (eval_up c (.list es) le l) fun t m m' l => up_ok l
  | comp own tg it d e => exact up_bind (eval_up c (.comp own tg it d e) le l) fun t m m' l => up_ok l
  | comp2 own tg it d own2 tg2 it2 d2 e => exact up_bind (eval_up c (.comp2 own tg it d own2 tg2 it2 d2 e) le l) fun t m m' l => up_ok l
  | dct ks vs => exact up_bind (eval_up c (.dct ks vs) le l) fun t m m' l => up_ok l
  | dcomp own tg it d k v => exact up_bind (eval_up c (.dcomp own tg it d k v) le l) fun t m m' l => up_ok l
  | callB f as =>
    cases f with
    | list => exact up_bind (eval_up c (.callB .list as) le l) fun t m m' l => up_ok l
    | dict => exact up_bind (eval_up c (.callB .dict as) le l) fun t m m' l => up_ok l
    | _ => trivial
  | callF f args ds => exact up_bind (evals_up c args le l) fun xs m m' l => c.call f (xs ++ ds) m m' l
  | _ => trivial
theorem for_up {w : Walk} {f f' : T → Env → Store → Out} (h : ∀ t env env' m m', LeE env env' → Le hid m m' → (f t env m).up hid (f' t env' m')) : ∀ (xs : List T) {env env' : Env} {m m' : Store}, LeE env env' → Le hid m m' → (forLoop w f xs env m).up hid (forLoop w f' xs env' m')
  | [], env, env', m, m', le, l => by
    unfold forLoop
    by_cases hw : w.ok m = true
    · rw [if_pos hw, if_pos (wok_le l w hw)]; exact nxt_up le l
    · rw [if_neg hw]; trivial
  | t :: r, env, env', m, m', le, l => by
    unfold forLoop
    by_cases hw : w.ok m = true
    · rw [if_pos hw, if_pos (wok_le l w hw)]
      have h1 := h t env env' m m' le l
      cases he : f t env m with
      | nxt e1 m1 => rw [he] at h1; obtain ⟨e1', m1', q, le1, l1⟩ := h1; rw [q]; exact for_up h r le1 l1
      | cnt e1 m1 => rw [he] at h1; obtain ⟨e1', m1', q, le1, l1⟩ := h1; rw [q]; exact for_up h r le1 l1
      | brk e1 m1 => rw [he] at h1; obtain ⟨e1', m1', q, le1, l1⟩ := h1; rw [q]; exact nxt_up le1 l1
      | ret t n m1 => rw [he] at h1; obtain ⟨m1', q, l1⟩ := h1; rw [q]; exact ⟨_, rfl, l1⟩
      | exc k xs e1 m1 => rw [he] at h1; obtain ⟨e1', m1', q, le1, l1⟩ := h1; rw [q]; exact ⟨_, _, rfl, le1, l1⟩
      | stuck => trivial
    · rw [if_neg hw]; trivial
theorem while_up {d d' : Env → Store → Res Bool} {f f' : Env → Store → Out} (hd : ∀ env env' m m', LeE env env' → Le hid m m' → (d env m).up hid (d' env' m')) (h : ∀ env env' m m', LeE env env' → Le hid m m' → (f env m).up hid (f' env' m')) : ∀ (n : Nat) {env env' : Env} {m m' : Store}, LeE env env' → Le hid m m' → (whileLoop d f n env m).up hid (whileLoop d' f' n env' m')
  | 0, _, _, _, _, _, _ => trivial
  | n + 1, env, env', m, m', le, l => by
    refine out_up (hd env env' m m' le l) le fun b m m' l => ?_
    cases b with
    | false => exact nxt_up le l
    | true =>
      simp only [if_true]
      have h1 := h env env' m m' le l
      cases he : f env m with
      | nxt e1 m1 => rw [he] at h1; obtain ⟨e1', m1', q, le1, l1⟩ := h1; rw [q]; exact while_up hd h n le1 l1
      | cnt e1 m1 => rw [he] at h1; obtain ⟨e1', m1', q, le1, l1⟩ := h1; rw [q]; exact while_up hd h n le1 l1
      | brk e1 m1 => rw [he] at h1; obtain ⟨e1', m1', q, le1, l1⟩ := h1; rw [q]; exact nxt_up le1 l1
      | ret t n m1 => rw [he] at h1; obtain ⟨m1', q, l1⟩ := h1; rw [q]; exact ⟨_, rfl, l1⟩
      | exc k xs e1 m1 => rw [he] at h1; obtain ⟨e1', m1', q, le1, l1⟩ := h1; rw [q]; exact ⟨_, _, rfl, le1, l1⟩
      | stuck => trivial
theorem test_up (c : CLe hid C C') (e : E) {env env' : Env} {m m' : Store} (le : LeE env env') (l : Le hid m m') : (test C e env m).up hid (test C' e env' m') := up_bind (eval_up c e le l) fun x m m' l => up_ofO (truth_le l x) l
theorem unset_up {o o' : Out} (h : o.up hid o') (i : Option Nat) : (o.unset i).up hid (o'.unset i) := by
  cases i with
  | none => exact h
  | some i =>
    cases o with
    | nxt e m => obtain ⟨e', m', rfl, le, l⟩ := h; exact nxt_up (le.set i .refl) l
    | brk e m => obtain ⟨e', m', rfl, le, l⟩ := h; exact ⟨_, _, rfl, le.set i .refl, l⟩
    | cnt e m => obtain ⟨e', m', rfl, le, l⟩ := h; exact ⟨_, _, rfl, le.set i .refl, l⟩
    | ret t n m => obtain ⟨m', rfl, l⟩ := h; exact ⟨_, rfl, l⟩
    | exc k xs e m => obtain ⟨e', m', rfl, le, l⟩ := h; exact ⟨_, _, rfl, le, l⟩
    | stuck => trivial
mutual
theorem exec_up (c : CLe hid C C') : ∀ (s : S) {env env' : Env} {m m' : Store}, LeE env env' → Le hid m m' → (exec C s env m).up hid (exec C' s env' m')
  | .skip, _, _, _, _, le, l => nxt_up le l
  | .seq a b, env, env', m, m', le, l => by
    have h1 := exec_up c a le l
    show (match exec C a env m with | .nxt env m => exec C b env m | o => o).up hid (match exec C' a env' m' with | .nxt env m => exec C' b env m | o => o)
    cases he : exec C a env m with
    | nxt e1 m1 => rw [he] at h1; obtain ⟨e1', m1', q, le1, l1⟩ := h1; rw [q]; exact exec_up c b le1 l1
    | cnt e1 m1 => rw [he] at h1; obtain ⟨e1', m1', q, le1, l1⟩ := h1; rw [q]; exact ⟨_, _, rfl, le1, l1⟩
    | brk e1 m1 => rw [he] at h1; obtain ⟨e1', m1', q, le1, l1⟩ := h1; rw [q]; exact ⟨_, _, rfl, le1, l1⟩
    | ret t n m1 => rw [he] at h1; obtain ⟨m1', q, l1⟩ := h1; rw [q]; exact ⟨_, rfl, l1⟩
    | exc k xs e1 m1 => rw [he] at h1; obtain ⟨e1', m1', q, le1, l1⟩ := h1; rw [q]; exact ⟨_, _, rfl, le1, l1⟩
    | stuck => trivial
  | .set i e, _, _, _, _, le, l => out_up (eval_up c e le l) le fun t m m' l => nxt_up (le.set i .refl) l
  | .setBox i e, _, _, _, _, le, l => out_up (new_up c e le l) le fun t m m' l => by
    obtain ⟨t, n⟩ := t
    cases n with
    | false => trivial
    | true =>
      simp only [if_true]
      cases cellOf t with
      | none => trivial
      | some cl => simp only [← l.len]; exact nxt_up (le.set i .refl) (l.app cl)
  | .setMany is e, env, env', _, _, le, l => out_up (eval_up c e le l) le fun t m m' l => by
    cases h : (Tgt.many is).set m t env with
    | none => simp only [h]; trivial
    | some e1 =>
      obtain ⟨e1', h1, h2⟩ := tgt_le l le (.many is) t h
      simp only [h, h1]
      exact nxt_up h2 l
  | .setPar i j a b, _, _, _, _, le, l => out_up (eval_up c a le l) le fun x m m' l => out_up (eval_up c b le l) le fun y m m' l => nxt_up ((le.set i .refl).set j .refl) l
  | .setIdx o k v, _, _, _, _, le, l => out_up (eval_up c v le l) le fun z m m' l => out_up (eval_up c o le l) le fun x m m' l => out_up (eval_up c k le l) le fun y m m' l => by
    cases x <;> first | trivial | skip
    rename_i n
    cases e : m[n]? with
    | none => simp only [e]; trivial
    | some cl =>
      cases cl with
      | lst xs =>
        simp only [e, l.at_ n _ e (by simp)]
        cases y <;> first | trivial | skip
        simp only
        cases ixT xs.length _ with
        | none => trivial
        | some j => exact nxt_up le (l.set n e (by simp) _)
      | dct ks vs =>
        simp only [e, l.at_ n _ e (by simp)]
        split
        · exact nxt_up le (l.set n e (by simp) _)
        · trivial
      | _ => simp only [e]; trivial
  | .setAttr o f v, _, _, _, _, le, l => out_up (eval_up c v le l) le fun z m m' l => out_up (eval_up c o le l) le fun x m m' l => by
    cases x <;> first | trivial | skip
    rename_i n
    cases e : m[n]? with
    | none => simp only [e]; trivial
    | some cl =>
      cases cl with
      | ins k fs =>
        simp only [e, l.at_ n _ e (by simp)]
        split
        · exact nxt_up le (l.set n e (by simp) _)
        · trivial
      | _ => simp only [e]; trivial
  | .setAttrBox o f v, _, _, _, _, le, l => out_up (new_up c v le l) le fun t m m' l => by
    obtain ⟨t, n⟩ := t
    cases n with
    | false => trivial
    | true =>
      simp only [if_true]
      cases cellOf t with
      | none => trivial
      | some cl =>
        simp only [← l.len]
        refine out_up (eval_up c o le (l.app cl)) le fun x m2 m2' l2 => ?_
        cases x <;> first | trivial | skip
        rename_i n
        cases e : m2[n]? with
        | none => simp only [e]; trivial
        | some cl =>
          cases cl with
          | ins k fs =>
            simp only [e, l2.at_ n _ e (by simp)]
            split
            · exact nxt_up le (l2.set n e (by simp) _)
            · trivial
          | _ => simp only [e]; trivial
  | .expr e, _, _, _, _, le, l => out_up (eval_up c e le l) le fun t m m' l => nxt_up le l
  | .ite d a b, _, _, _, _, le, l => out_up (test_up c d le l) le fun r m m' l => by
    cases r with
    | true => exact exec_up c a le l
    | false => exact exec_up c b le l
  | .for tg it body, _, _, _, _, le, l => out_up (evalI_up c it le l) le fun w m m' l => by
    refine for_up (fun t env env' m m' le l => ?_) w.xs le l
    cases h : tg.set m t env with
    | none => trivial
    | some e1 =>
      obtain ⟨e1', h1, h2⟩ := tgt_le l le tg t h
      rw [h1]
      exact exec_up c body h2 l
  | .while d body, _, _, _, _, le, l => by
    show (whileLoop _ _ C.fuel _ _).up hid (whileLoop _ _ C'.fuel _ _)
    rw [← c.fuel]
    exact while_up (fun env env' m m' le l => test_up c d le l) (fun env env' m m' le l => exec_up c body le l) C.fuel le l
  | .brk, _, _, _, _, le, l => ⟨_, _, rfl, le, l⟩
  | .cnt, _, _, _, _, le, l => ⟨_, _, rfl, le, l⟩
  | .ret e, _, _, _, _, le, l => out_up (eval_up c e le l) le fun t m m' l => ⟨_, rfl, l⟩
  | .retNew e, _, _, _, _, le, l => out_up (new_up c e le l) le fun t m m' l => ⟨_, rfl, l⟩
  | .retMove i, env, env', m, m', le, l => by
    show (match env.get i with | some (.obj n) => (match (m[n]?).bind Cell.tree with | some t => Out.ret t true (m.set n .dead) | none => .stuck) | some t => .ret t false m | none => .stuck).up hid
      (match env'.get i with | some (.obj n) => (match (m'[n]?).bind Cell.tree with | some t => Out.ret t true (m'.set n .dead) | none => .stuck) | some t => .ret t false m' | none => .stuck)
    cases h : env.get i with
    | none => trivial
    | some t =>
      rw [le.at_ i t h]
      cases t with
      | obj n =>
        simp only
        cases e : m[n]? with
        | none => trivial
        | some cl =>
          by_cases hd : cl = .dead
          · subst hd; trivial
          · rw [l.at_ n cl e hd]
            simp only [Option.bind_some]
            cases cl.tree with
            | none => trivial
            | some t => exact ⟨_, rfl, l.set n e hd _⟩
      | _ => exact ⟨_, rfl, l⟩
  | .raise k keep args, _, _, _, _, le, l => out_up (evals_up c args le l) le fun xs m m' l => ⟨_, _, rfl, le, l⟩
  | .tryx body hs, env, env', m, m', le, l => by
    have h1 := exec_up c body le l
    show (match exec C body env m with | .exc k xs env m => execH C hs k xs env m | o => o).up hid (match exec C' body env' m' with | .exc k xs env m => execH C' hs k xs env m | o => o)
    cases he : exec C body env m with
    | exc k xs e1 m1 => rw [he] at h1; obtain ⟨e1', m1', q, le1, l1⟩ := h1; rw [q]; exact execH_up c hs k xs le1 l1
    | nxt e1 m1 => rw [he] at h1; obtain ⟨e1', m1', q, le1, l1⟩ := h1; rw [q]; exact ⟨_, _, rfl, le1, l1⟩
    | cnt e1 m1 => rw [he] at h1; obtain ⟨e1', m1', q, le1, l1⟩ := h1; rw [q]; exact ⟨_, _, rfl, le1, l1⟩
    | brk e1 m1 => rw [he] at h1; obtain ⟨e1', m1', q, le1, l1⟩ := h1; rw [q]; exact ⟨_, _, rfl, le1, l1⟩
    | ret t n m1 => rw [he] at h1; obtain ⟨m1', q, l1⟩ := h1; rw [q]; exact ⟨_, rfl, l1⟩
    | stuck => trivial
  | .tryRef body d, env, env', m, m', le, l => by
    have h1 := exec_up c body le l
    show (match exec C body env m with | .exc k xs env m => (match C.sub k d with | some true => (match C.rf k with | some s => Out.ret (.str s) false m | none => .stuck) | some false => .exc k xs env m | none => .stuck) | o => o).up hid
      (match exec C' body env' m' with | .exc k xs env m => (match C'.sub k d with | some true => (match C'.rf k with | some s => Out.ret (.str s) false m | none => .stuck) | some false => .exc k xs env m | none => .stuck) | o => o)
    cases he : exec C body env m with
    | exc k xs e1 m1 =>
      rw [he] at h1; obtain ⟨e1', m1', q, le1, l1⟩ := h1; rw [q]
      simp only [← c.sub, ← c.rf]
      cases C.sub k d with
      | none => trivial
      | some b =>
        cases b with
        | false => exact ⟨_, _, rfl, le1, l1⟩
        | true =>
          cases C.rf k with
          | none => trivial
          | some s => exact ⟨_, rfl, l1⟩
    | nxt e1 m1 => rw [he] at h1; obtain ⟨e1', m1', q, le1, l1⟩ := h1; rw [q]; exact ⟨_, _, rfl, le1, l1⟩
    | cnt e1 m1 => rw [he] at h1; obtain ⟨e1', m1', q, le1, l1⟩ := h1; rw [q]; exact ⟨_, _, rfl, le1, l1⟩
    | brk e1 m1 => rw [he] at h1; obtain ⟨e1', m1', q, le1, l1⟩ := h1; rw [q]; exact ⟨_, _, rfl, le1, l1⟩
    | ret t n m1 => rw [he] at h1; obtain ⟨m1', q, l1⟩ := h1; rw [q]; exact ⟨_, rfl, l1⟩
    | stuck => trivial
  | .freeze i, env, env', m, m', le, l => by
    show (match env.get i with | none => Out.stuck | some (.obj n) => (match (m[n]?).bind Cell.tree with | some t => Out.nxt (env.set i (some t)) (m.set n .dead) | none => .stuck) | some _ => .nxt env m).up hid
      (match env'.get i with | none => Out.stuck | some (.obj n) => (match (m'[n]?).bind Cell.tree with | some t => Out.nxt (env'.set i (some t)) (m'.set n .dead) | none => .stuck) | some _ => .nxt env' m')
    cases h : env.get i with
    | none => trivial
    | some t =>
      rw [le.at_ i t h]
      cases t with
      | obj n =>
        simp only
        cases e : m[n]? with
        | none => trivial
        | some cl =>
          by_cases hd : cl = .dead
          · subst hd; trivial
          · rw [l.at_ n cl e hd]
            simp only [Option.bind_some]
            cases cl.tree with
            | none => trivial
            | some t => exact nxt_up (le.set i .refl) (l.set n e hd _)
      | _ => exact nxt_up le l
theorem execH_up (c : CLe hid C C') : ∀ (hs : HS) (k : Nat) (xs : List T) {env env' : Env} {m m' : Store}, LeE env env' → Le hid m m' → (execH C hs k xs env m).up hid (execH C' hs k xs env' m')
  | .nil, _, _, _, _, _, _, le, l => ⟨_, _, rfl, le, l⟩
  | .cons d i suite r, k, xs, env, env', m, m', le, l => by
    show (match C.sub k d with | some true => (match i with | none => exec C suite env m | some j => (exec C suite (env.set j (some (.exc k xs))) m).unset i) | some false => execH C r k xs env m | none => .stuck).up hid
      (match C'.sub k d with | some true => (match i with | none => exec C' suite env' m' | some j => (exec C' suite (env'.set j (some (.exc k xs))) m').unset i) | some false => execH C' r k xs env' m' | none => .stuck)
    rw [← c.sub]
    cases C.sub k d with
    | none => trivial
    | some b =>
      cases b with
      | false => exact execH_up c r k xs le l
      | true =>
        cases i with
        | none => exact exec_up c suite le l
        | some j => exact unset_up (exec_up c suite (le.set j .refl) l) _
end
end
theorem finish_up {o o' : Out} (h : o.up hid o') : (finish o).up hid (finish o') := by
  cases o with
  | nxt e m => obtain ⟨e', m', rfl, le, l⟩ := h; exact up_ok l
  | ret t n m => obtain ⟨m', rfl, l⟩ := h; exact up_ok l
  | exc k xs e m => obtain ⟨e', m', rfl, le, l⟩ := h; exact ⟨_, rfl, l⟩
  | _ => trivial
theorem alone_up {m m' : Store} (l : Le hid m m') (r : Res (T × Bool)) : (alone m r).up hid (alone m' r) := by
  cases r with
  | ok a m1 => simp only [alone]; split
               · exact up_ok l
               · trivial
  | exc c xs m1 => simp only [alone]; split
                   · exact ⟨_, rfl, l⟩
                   · trivial
  | stuck => trivial
theorem callN_up (P : Prog) : ∀ (k f : Nat) (ts : List T) (m m' : Store), Le hid m m' → (callN P k f ts m).up hid (callN P k f ts m')
  | 0, _, _, _, _, _ => trivial
  | k + 1, f, ts, m, m', l => by
    show (match P.fns[f]? with | none => _ | some f => _ : Res (T × Bool)).up hid (match P.fns[f]? with | none => _ | some f => _ : Res (T × Bool))
    cases P.fns[f]? with
    | none => trivial
    | some f =>
      simp only
      split
      · split
        · split
          · exact alone_up l _
          · trivial
        · exact finish_up (exec_up ⟨callN_up P k, rfl, rfl, rfl, rfl, rfl⟩ f.body .refl l)
      · trivial
end MP
end

section
set_option Elab.async false
set_option linter.all false
set_option maxRecDepth 100000
set_option maxHeartbeats 0
/-! MQ4: parts of a body; results that are known. -/
namespace MP
/-- the first n statements -/
def pre : Nat → S → S
  | 0, _ => .skip
  | n + 1, .seq a b => .seq a (pre n b)
  | _ + 1, s => s
def post : Nat → S → S
  | 0, s => s
  | n + 1, .seq _ b => post n b
  | _ + 1, _ => .skip
def hd1 : S → S
  | .seq a _ => a
  | s => s
def Out.then_ (o : Out) (f : Env → Store → Out) : Out := match o with | .nxt env m => f env m | o => o
theorem exec_seq (C : Ctx) (a b : S) (env : Env) (m : Store) : exec C (.seq a b) env m = (exec C a env m).then_ fun env m => exec C b env m := by
  show (match exec C a env m with | .nxt env m => exec C b env m | o => o) = _
  cases exec C a env m <;> rfl
theorem then_then (o : Out) (f g : Env → Store → Out) : (o.then_ f).then_ g = o.then_ fun env m => (f env m).then_ g := by cases o <;> rfl
theorem then_skip (o : Out) : o.then_ (fun env m => .nxt env m) = o := by cases o <;> rfl
theorem exec_cut (C : Ctx) : ∀ (n : Nat) (s : S) (env : Env) (m : Store), exec C s env m = (exec C (pre n s) env m).then_ fun env m => exec C (post n s) env m
  | 0, s, env, m => rfl
  | n + 1, s, env, m => by
    cases s with
    | seq a b =>
      show exec C (.seq a b) env m = (exec C (.seq a (pre n b)) env m).then_ fun env m => exec C (post n b) env m
      rw [exec_seq, exec_seq, then_then]
      congr 1; funext env m
      exact exec_cut C n b env m
    | _ => exact (then_skip _).symm
/-- defs that are not run -/
def shut (no : List Nat) (C : Ctx) : Ctx := { C with call := fun f ts m => if no.contains f then .stuck else C.call f ts m }
theorem shut_le {hid : Nat → Option Cell} {no : List Nat} {C : Ctx} (h : ∀ f ts m m', Le hid m m' → (C.call f ts m).up hid (C.call f ts m')) : CLe hid (shut no C) C := by
  refine ⟨fun f ts m m' l => ?_, rfl, rfl, rfl, rfl, rfl⟩
  show (if no.contains f then Res.stuck else C.call f ts m).up hid _
  split
  · trivial
  · exact h f ts m m' l
def ctxN (P : Prog) (k : Nat) : Ctx := ⟨callN P k, P.fuel, P.sub, P.meth, P.ini, P.rf⟩
theorem shutN {hid : Nat → Option Cell} (P : Prog) (no : List Nat) (k : Nat) : CLe hid (shut no (ctxN P k)) (ctxN P k) := shut_le fun f ts m m' l => callN_up P k f ts m m' l
end MP
end

section
set_option Elab.async false
set_option linter.all false
set_option maxRecDepth 100000
set_option maxHeartbeats 0
/-! MQ5: the evaluator's equations. -/
namespace MP
section
variable {C : Ctx} {env : Env} {m : Store}
theorem ev_cst {t} : eval C (.cst t) env m = .ok t m := rfl
theorem ev_glo {x t} : eval C (.glo x t) env m = .ok t m := rfl
theorem ev_var {i} : eval C (.var i) env m = .ofO (env.get i) m := rfl
theorem ev_bin {o a b} : eval C (.bin o a b) env m = (eval C a env m).bind fun x m => (eval C b env m).bind fun y m => .ofO (bopT m o x y) m := rfl
theorem ev_cmp {o a b} : eval C (.cmp o a b) env m = (eval C a env m).bind fun x m => (eval C b env m).bind fun y m => .ofO ((cmpT m o x y).map .bl) m := rfl
theorem ev_and {a b} : eval C (.and a b) env m = (eval C a env m).bind fun x m => (Res.ofO (truth m x) m).bind fun r m => if r then eval C b env m else .ok x m := rfl
theorem ev_or {a b} : eval C (.or a b) env m = (eval C a env m).bind fun x m => (Res.ofO (truth m x) m).bind fun r m => if r then .ok x m else eval C b env m := rfl
theorem ev_not {a} : eval C (.not a) env m = (eval C a env m).bind fun x m => (Res.ofO (truth m x) m).bind fun r m => .ok (.bl (!r)) m := rfl
theorem ev_ite {c a b} : eval C (.ite c a b) env m = (eval C c env m).bind fun x m => (Res.ofO (truth m x) m).bind fun r m => if r then eval C a env m else eval C b env m := rfl
theorem ev_list {es} : eval C (.list es) env m = (evals C es env m).bind shortL := rfl
theorem ev_idx {a k} : eval C (.idx a k) env m = (eval C a env m).bind fun x m => (eval C k env m).bind fun y m => .ofO (idxT m x y) m := rfl
theorem ev_callF {f args ds} : eval C (.callF f args ds) env m = (evals C args env m).bind fun xs m => (C.call f (xs ++ ds) m).bind fun r m => .ok r.1 m := rfl
theorem ev_callB {f args} : eval C (.callB f args) env m = (evals C args env m).bind fun xs m => .ofO (biT m f xs) m := rfl
theorem evs_nil : evals C .nil env m = .ok [] m := rfl
theorem evs_cons {e r} : evals C (.cons e r) env m = (eval C e env m).bind fun x m => (evals C r env m).bind fun xs m => .ok (x :: xs) m := rfl
theorem ex_skip : exec C .skip env m = .nxt env m := rfl
theorem ex_set {i e} : exec C (.set i e) env m = (eval C e env m).out env fun t m => .nxt (env.set i (some t)) m := rfl
theorem ex_ite {c a b} : exec C (.ite c a b) env m = (test C c env m).out env fun r m => if r then exec C a env m else exec C b env m := rfl
theorem ex_ret {e} : exec C (.ret e) env m = (eval C e env m).out env fun t m => .ret t false m := rfl
theorem ex_setIdx {o k v} : exec C (.setIdx o k v) env m = (eval C v env m).out env fun z m => (eval C o env m).out env fun x m => (eval C k env m).out env fun y m =>
      (match x with
      | .obj n => (match m[n]? with
        | some (.lst xs) => (match y with
          | .int i => (match ixT xs.length i with | some j => .nxt env (m.set n (.lst (xs.set j z))) | none => .stuck)
          | _ => .stuck)
        | some (.dct ks vs) => if keyOk y && decide (ks.length < LINE) then .nxt env (m.set n (.dct (putK y z ks vs).1 (putK y z ks vs).2)) else .stuck
        | _ => .stuck)
      | _ => .stuck) := rfl
theorem test_def {e} : test C e env m = (eval C e env m).bind fun x m => .ofO (truth m x) m := rfl
/-! steps -/
variable {m1 m2 : Store} {env1 : Env}
theorem d_var {i : Nat} {t : T} (h : env.get i = some t) : eval C (.var i) env m = .ok t m := by rw [ev_var, h]; rfl
theorem d_add {a b : E} {i j : Int} (ha : eval C a env m = .ok (.int i) m1) (hb : eval C b env m1 = .ok (.int j) m2) : eval C (.bin .add a b) env m = .ok (.int (i + j)) m2 := by rw [ev_bin, ha, Res.bind_ok, hb]; rfl
theorem d_sub {a b : E} {i j : Int} (ha : eval C a env m = .ok (.int i) m1) (hb : eval C b env m1 = .ok (.int j) m2) : eval C (.bin .sub a b) env m = .ok (.int (i - j)) m2 := by rw [ev_bin, ha, Res.bind_ok, hb]; rfl
theorem d_mul {a b : E} {i j : Int} (ha : eval C a env m = .ok (.int i) m1) (hb : eval C b env m1 = .ok (.int j) m2) (h : (small i || small j) = true) : eval C (.bin .mul a b) env m = .ok (.int (i * j)) m2 := by
  rw [ev_bin, ha, Res.bind_ok, hb, Res.bind_ok]
  show Res.ofO (if (small i || small j) = true then _ else _) _ = _
  rw [if_pos h]; rfl
theorem d_mod {a b : E} {i j : Int} (ha : eval C a env m = .ok (.int i) m1) (hb : eval C b env m1 = .ok (.int j) m2) (h : j ≠ 0) : eval C (.bin .mod a b) env m = .ok (.int (i.fmod j)) m2 := by
  rw [ev_bin, ha, Res.bind_ok, hb, Res.bind_ok]
  show Res.ofO (if j ≠ 0 then _ else _) _ = _
  rw [if_pos h]; rfl
theorem d_fdiv {a b : E} {i j : Int} (ha : eval C a env m = .ok (.int i) m1) (hb : eval C b env m1 = .ok (.int j) m2) (h : j ≠ 0 ∧ j.natAbs < 1073741824) : eval C (.bin .fdiv a b) env m = .ok (.int (i.fdiv j)) m2 := by
  rw [ev_bin, ha, Res.bind_ok, hb, Res.bind_ok]
  show Res.ofO (if j ≠ 0 ∧ j.natAbs < 1073741824 then _ else _) _ = _
  rw [if_pos h]; rfl
theorem d_cmp {o : Cop} {a b : E} {x y : T} {r : Bool} (ha : eval C a env m = .ok x m1) (hb : eval C b env m1 = .ok y m2) (h : cmpT m2 o x y = some r) : eval C (.cmp o a b) env m = .ok (.bl r) m2 := by rw [ev_cmp, ha, Res.bind_ok, hb, Res.bind_ok, h]; rfl
theorem d_test {e : E} {x : T} {r : Bool} (ha : eval C e env m = .ok x m1) (h : truth m1 x = some r) : test C e env m = .ok r m1 := by rw [test_def, ha, Res.bind_ok, h]; rfl
theorem d_andT {a b : E} {x : T} {r : Res T} (ha : eval C a env m = .ok x m1) (h : truth m1 x = some true) (hb : eval C b env m1 = r) : eval C (.and a b) env m = r := by rw [ev_and, ha, Res.bind_ok, h, Res.ofO_some, Res.bind_ok, if_pos rfl, hb]
theorem d_andF {a b : E} {x : T} (ha : eval C a env m = .ok x m1) (h : truth m1 x = some false) : eval C (.and a b) env m = .ok x m1 := by rw [ev_and, ha, Res.bind_ok, h]; rfl
theorem d_bi1 {f : Bi} {a : E} {x y : T} (ha : eval C a env m = .ok x m1) (h : biT m1 f [x] = some y) : eval C (.callB f (.cons a .nil)) env m = .ok y m1 := by rw [ev_callB, evs_cons, ha, Res.bind_ok, evs_nil, Res.bind_ok, Res.bind_ok, h]; rfl
theorem d_idx {a k : E} {x y z : T} (ha : eval C a env m = .ok x m1) (hk : eval C k env m1 = .ok y m2) (h : idxT m2 x y = some z) : eval C (.idx a k) env m = .ok z m2 := by rw [ev_idx, ha, Res.bind_ok, hk, Res.bind_ok, h]; rfl
theorem x_seq {a b : S} (h : exec C a env m = .nxt env1 m1) : exec C (.seq a b) env m = exec C b env1 m1 := by rw [exec_seq, h]; rfl
theorem x_seqR {a b : S} {t : T} {n : Bool} (h : exec C a env m = .ret t n m1) : exec C (.seq a b) env m = .ret t n m1 := by rw [exec_seq, h]; rfl
theorem x_set {i : Nat} {e : E} {t : T} (h : eval C e env m = .ok t m1) : exec C (.set i e) env m = .nxt (env.set i (some t)) m1 := by rw [ex_set, h]; rfl
theorem x_ret {e : E} {t : T} (h : eval C e env m = .ok t m1) : exec C (.ret e) env m = .ret t false m1 := by rw [ex_ret, h]; rfl
theorem x_iteT {c : E} {a b : S} (h : test C c env m = .ok true m1) : exec C (.ite c a b) env m = exec C a env m1 := by rw [ex_ite, h]; rfl
theorem x_iteF {c : E} {a b : S} (h : test C c env m = .ok false m1) : exec C (.ite c a b) env m = exec C b env m1 := by rw [ex_ite, h]; rfl
theorem x_setIdx {o k v : E} {z : T} {n j : Nat} {i : Int} {m3 : Store} {xs : List T} (hv : eval C v env m = .ok z m1) (ho : eval C o env m1 = .ok (.obj n) m2) (hk : eval C k env m2 = .ok (.int i) m3) (hn : m3[n]? = some (.lst xs)) (hj : ixT xs.length i = some j) :
    exec C (.setIdx o k v) env m = .nxt env (m3.set n (.lst (xs.set j z))) := by
  rw [ex_setIdx, hv, Res.out_ok, ho, Res.out_ok, hk, Res.out_ok]
  simp only [hn, hj]
end
end MP
end

section
set_option Elab.async false
set_option linter.all false
set_option maxRecDepth 100000
set_option maxHeartbeats 0
/-! MQ6: the laws' own draws. -/
namespace MP
def drawS : S := .seq (.ite (.cmp .gt (.idx (.var 0) (.cst (.int 2))) (.cst (.int 0))) (.seq (.set 2 (.bin .mod (.callB .int (.cons (.idx (.var 0) (.cst (.int 2))) .nil)) (.var 1))) (.seq (.setIdx (.var 0) (.cst (.int 2)) (.bin .fdiv (.idx (.var 0) (.cst (.int 2))) (.var 1))) (.ret (.var 2)))) (.skip)) (.seq (.ite (.and (.cmp .eq (.bin .mod (.callB .int (.cons (.idx (.var 0) (.cst (.int 4))) .nil)) (.cst (.int 8))) (.cst (.int 0))) (.cmp .lt (.idx (.var 0) (.cst (.int 1))) (.callB .len (.cons (.idx (.var 0) (.cst (.int 0))) .nil)))) (.seq (.set 3 (.callB .abs (.cons (.idx (.idx (.var 0) (.cst (.int 0))) (.idx (.var 0) (.cst (.int 1)))) .nil))) (.seq (.setIdx (.var 0) (.cst (.int 1)) (.bin .add (.idx (.var 0) (.cst (.int 1))) (.cst (.int 1)))) (.seq (.ite (.cmp .ge (.var 3) (.bin .pow (.cst (.int 10)) (.cst (.int 18)))) (.seq (.setIdx (.var 0) (.cst (.int 2)) (.bin .fdiv (.var 3) (.var 1))) (.ret (.bin .mod (.callB .int (.cons (.var 3) .nil)) (.var 1)))) (.skip)) (.setIdx (.var 0) (.cst (.int 3)) (.var 3))))) (.skip)) (.seq (.setIdx (.var 0) (.cst (.int 4)) (.bin .add (.idx (.var 0) (.cst (.int 4))) (.cst (.int 1)))) (.seq (.set 4 (.bin .mod (.callB .int (.cons (.bin .add (.bin .add (.bin .mul (.idx (.var 0) (.cst (.int 3))) (.cst (.int 48271))) (.bin .mul (.idx (.var 0) (.cst (.int 4))) (.cst (.int 69621)))) (.cst (.int 7919))) .nil)) (.cst (.int 2147483647)))) (.seq (.set 4 (.bin .mod (.callB .int (.cons (.bin .add (.bin .mul (.var 4) (.var 4)) (.bin .mul (.idx (.var 0) (.cst (.int 4))) (.cst (.int 40692)))) .nil)) (.cst (.int 2147483399)))) (.ret (.bin .mod (.callB .int (.cons (.var 4) .nil)) (.var 1)))))))
abbrev P5 (ns : List Int) (p r b s : Int) : List T := [.lst (ns.map T.int), .int p, .int r, .int b, .int s]
/-- a pool of draws -/
def Pool (ns : List Int) (c : Cell) : Prop := ∃ p r b s : Int, c = .lst (P5 ns p r b s) ∧ 0 ≤ p ∧ p ≤ ns.length ∧ 0 ≤ r ∧ 0 ≤ b ∧ 0 ≤ s
theorem fmod_lt {a b : Int} (h : 0 < b) : 0 ≤ a.fmod b ∧ a.fmod b < b := ⟨Int.fmod_nonneg_of_pos a h, Int.fmod_lt_of_pos a h⟩
section
variable {C : Ctx} {m : Store} {q : Nat} {c : Cell} {ns : List Int} {p r b s many : Int}
theorem at_lt {α : Type} {l : List α} {i : Nat} {a : α} (e : l[i]? = some a) : i < l.length := by
  by_cases h : i < l.length
  · exact h
  · rw [List.getElem?_eq_none (by omega)] at e; cases e
theorem pool_idx {xs : List T} (hm : m[q]? = some (.lst xs)) (k : T) : idxT m (.obj q) k = idxL xs k := by
  simp only [idxT, vwL, hm]
section
variable {env : Env} (he : env.get 0 = some (.obj q)) (hm : m[q]? = some (.lst (P5 ns p r b s)))
include he hm
theorem g0 : eval C (.idx (.var 0) (.cst (.int 0))) env m = .ok (.lst (ns.map T.int)) m := d_idx (d_var he) ev_cst (by rw [pool_idx hm]; rfl)
theorem g1 : eval C (.idx (.var 0) (.cst (.int 1))) env m = .ok (.int p) m := d_idx (d_var he) ev_cst (by rw [pool_idx hm]; rfl)
theorem g2 : eval C (.idx (.var 0) (.cst (.int 2))) env m = .ok (.int r) m := d_idx (d_var he) ev_cst (by rw [pool_idx hm]; rfl)
theorem g3 : eval C (.idx (.var 0) (.cst (.int 3))) env m = .ok (.int b) m := d_idx (d_var he) ev_cst (by rw [pool_idx hm]; rfl)
theorem g4 : eval C (.idx (.var 0) (.cst (.int 4))) env m = .ok (.int s) m := d_idx (d_var he) ev_cst (by rw [pool_idx hm]; rfl)
theorem put {v : E} {k : Int} {z : T} {j : Nat} (hv : eval C v env m = .ok z m) (hj : ixT 5 k = some j) : exec C (.setIdx (.var 0) (.cst (.int k)) v) env m = .nxt env (m.set q (.lst ((P5 ns p r b s).set j z))) := x_setIdx hv (d_var he) ev_cst hm hj
end
theorem int_int {a : E} {env : Env} {m1 : Store} {i : Int} (h : eval C a env m = .ok (.int i) m1) : eval C (.callB .int (.cons a .nil)) env m = .ok (.int i) m1 := d_bi1 h rfl
theorem draw_tail (hm : m[q]? = some (.lst (P5 ns p r b s))) (hn : 1 ≤ many) {x2 x3 x4 : Option T} :
    ∃ v, 0 ≤ v ∧ v < many ∧ exec C (post 2 drawS) [some (.obj q), some (.int many), x2, x3, x4] m = .ret (.int v) false (m.set q (.lst (P5 ns p r b (s + 1)))) := by
  have hq := at_lt hm
  have hm2 : (m.set q (.lst (P5 ns p r b (s + 1))))[q]? = some (.lst (P5 ns p r b (s + 1))) := List.getElem?_set_self hq
  have sm : small ((b * 48271 + (s + 1) * 69621 + 7919).fmod 2147483647) = true := by
    have := fmod_lt (a := b * 48271 + (s + 1) * 69621 + 7919) (b := 2147483647) (by omega)
    unfold small
    simp only [Bool.and_eq_true, decide_eq_true_eq]
    omega
  refine ⟨((((b * 48271 + (s + 1) * 69621 + 7919).fmod 2147483647) * ((b * 48271 + (s + 1) * 69621 + 7919).fmod 2147483647) + (s + 1) * 40692).fmod 2147483399).fmod many, (fmod_lt (by omega)).1, (fmod_lt (by omega)).2, ?_⟩
  show exec C (.seq _ _) _ _ = _
  rw [x_seq (put (j := 4) rfl hm (d_add (g4 rfl hm) ev_cst) rfl)]
  have hm2' : (m.set q (.lst ((P5 ns p r b s).set 4 (.int (s + 1)))))[q]? = some (.lst (P5 ns p r b (s + 1))) := hm2
  rw [x_seq (x_set (d_mod (int_int (d_add (d_add (d_mul (g3 rfl hm2') ev_cst (by simp [small])) (d_mul (g4 rfl hm2') ev_cst (by simp [small]))) ev_cst)) ev_cst (by decide)))]
  rw [x_seq (x_set (d_mod (int_int (d_add (d_mul (d_var rfl) (d_var rfl) (by rw [sm]; rfl)) (d_mul (g4 rfl hm2') ev_cst (by simp [small])))) ev_cst (by decide)))]
  exact x_ret (d_mod (int_int (d_var rfl)) (d_var rfl) (by omega))
theorem draw_ok (hc : Pool ns c) (hm : m[q]? = some c) (hn : 1 ≤ many) (hx : many < 1073741824) :
    ∃ v c', 0 ≤ v ∧ v < many ∧ Pool ns c' ∧ exec C drawS [some (.obj q), some (.int many), none, none, none] m = .ret (.int v) false (m.set q c') := by
  obtain ⟨p, r, b, s, rfl, h1, h2, h3, h4, h5⟩ := hc
  have hq := at_lt hm
  have hne : many ≠ 0 ∧ many.natAbs < 1073741824 := by omega
  by_cases hr : 0 < r
  · refine ⟨r.fmod many, .lst (P5 ns p (r.fdiv many) b s), (fmod_lt (by omega)).1, (fmod_lt (by omega)).2, ⟨_, _, _, _, rfl, h1, h2, Int.fdiv_nonneg h3 (by omega), h4, h5⟩, ?_⟩
    refine x_seqR ?_
    rw [x_iteT (m1 := m) (d_test (d_cmp (r := true) (g2 rfl hm) ev_cst ?_) rfl)]
    · rw [x_seq (x_set (d_mod (int_int (g2 rfl hm)) (d_var rfl) hne.1))]
      rw [x_seq (put (j := 2) rfl hm (d_fdiv (g2 rfl hm) (d_var rfl) hne) rfl)]
      exact x_ret (d_var rfl)
    · show some (ordT .gt (compare r 0)) = _
      have : compare r 0 = .gt := by rw [Int.compare_eq_gt]; omega
      rw [this]; rfl
  · have r0 : r = 0 := by omega
    subst r0
    have skip1 : ∀ B, exec C (.seq (.ite (.cmp .gt (.idx (.var 0) (.cst (.int 2))) (.cst (.int 0))) B .skip) (post 1 drawS)) [some (.obj q), some (.int many), none, none, none] m = exec C (post 1 drawS) [some (.obj q), some (.int many), none, none, none] m := fun B => by
      refine x_seq ?_
      rw [x_iteF (m1 := m) (d_test (d_cmp (r := false) (g2 rfl hm) ev_cst rfl) rfl)]
      rfl
    rw [show drawS = .seq _ (post 1 drawS) from rfl, skip1]
    have tail : ∀ {m' : Store} {b' s' p' : Int} {x2 x3 x4 : Option T}, m'[q]? = some (.lst (P5 ns p' 0 b' s')) → (∃ z, m' = m.set q z) → 0 ≤ p' → p' ≤ ns.length → 0 ≤ b' → 0 ≤ s' → ∃ v c', 0 ≤ v ∧ v < many ∧ Pool ns c' ∧ exec C (post 2 drawS) [some (.obj q), some (.int many), x2, x3, x4] m' = .ret (.int v) false (m.set q c') := fun {m' b' s' p' x2 x3 x4} hm' hz k1 k2 k3 k4 => by
      obtain ⟨v, v1, v2, e⟩ := draw_tail (C := C) (x2 := x2) (x3 := x3) (x4 := x4) hm' hn
      obtain ⟨z, rfl⟩ := hz
      exact ⟨v, .lst (P5 ns p' 0 b' (s' + 1)), v1, v2, ⟨p', 0, b', s' + 1, rfl, k1, k2, Int.le_refl 0, k3, by omega⟩, by rw [e, List.set_set]⟩
    have self : ∃ z, m = m.set q z := ⟨.lst (P5 ns p 0 b s), by
      apply List.ext_getElem?
      intro i
      rw [List.getElem?_set]
      split
      · rename_i hi; subst hi; exact hm
      · rfl⟩
    have c1 : eval C (.cmp .eq (.bin .mod (.callB .int (.cons (.idx (.var 0) (.cst (.int 4))) .nil)) (.cst (.int 8))) (.cst (.int 0))) [some (.obj q), some (.int many), none, none, none] m = .ok (.bl (s.fmod 8 == 0)) m := d_cmp (d_mod (int_int (g4 rfl hm)) ev_cst (by decide)) ev_cst rfl
    have c2 : eval C (.cmp .lt (.idx (.var 0) (.cst (.int 1))) (.callB .len (.cons (.idx (.var 0) (.cst (.int 0))) .nil))) [some (.obj q), some (.int many), none, none, none] m = .ok (.bl (ordT .lt (compare p (ns.length : Int)))) m := d_cmp (g1 rfl hm) (d_bi1 (y := .int (ns.length : Int)) (g0 rfl hm) (by simp [biT, vwL])) rfl
    show ∃ v c', 0 ≤ v ∧ v < many ∧ Pool ns c' ∧ exec C (.seq (.ite (.and _ _) _ .skip) (post 2 drawS)) _ m = .ret (.int v) false (m.set q c')
    by_cases hs : (s.fmod 8 == 0) = true ∧ p < ns.length
    · obtain ⟨k, hp⟩ := hs
      rw [k] at c1
      have hcp : ordT .lt (compare p (ns.length : Int)) = true := by
        have : compare p (ns.length : Int) = .lt := by rw [Int.compare_eq_lt]; exact hp
        rw [this]; rfl
      rw [hcp] at c2
      have ct := d_test (C := C) (d_andT c1 rfl c2) (r := true) rfl
      have hpn : p.toNat < ns.length := by omega
      obtain ⟨a, ha0, ha⟩ : ∃ a : Int, 0 ≤ a ∧ eval C (.callB .abs (.cons (.idx (.idx (.var 0) (.cst (.int 0))) (.idx (.var 0) (.cst (.int 1)))) .nil)) [some (.obj q), some (.int many), none, none, none] m = .ok (.int a) m := by
        have e : idxT m (.lst (ns.map T.int)) (.int p) = some (.int ns[p.toNat]) := by
          show (ixT (ns.map T.int).length p).bind _ = _
          unfold ixT
          rw [if_pos h1, if_pos (by rw [List.length_map]; exact hp)]
          simp [hpn]
        refine ⟨if ns[p.toNat] < 0 then -ns[p.toNat] else ns[p.toNat], by split <;> omega, d_bi1 (d_idx (g0 rfl hm) (g1 rfl hm) e) rfl⟩
      have hm1 : (m.set q (.lst ((P5 ns p 0 b s).set 1 (.int (p + 1)))))[q]? = some (.lst (P5 ns (p + 1) 0 b s)) := List.getElem?_set_self hq
      have cg : eval C (.cmp .ge (.var 3) (.bin .pow (.cst (.int 10)) (.cst (.int 18)))) [some (.obj q), some (.int many), none, some (.int a), none] (m.set q (.lst ((P5 ns p 0 b s).set 1 (.int (p + 1))))) = .ok (.bl (ordT .ge (compare a 1000000000000000000))) (m.set q (.lst ((P5 ns p 0 b s).set 1 (.int (p + 1))))) := d_cmp (d_var rfl) (show eval C (.bin .pow (.cst (.int 10)) (.cst (.int 18))) _ _ = .ok (.int 1000000000000000000) _ from rfl) rfl
      cases hg : ordT .ge (compare a 1000000000000000000) with
      | true =>
        rw [hg] at cg
        refine ⟨a.fmod many, .lst (P5 ns (p + 1) (a.fdiv many) b s), (fmod_lt (by omega)).1, (fmod_lt (by omega)).2, ⟨_, _, _, _, rfl, by omega, by omega, Int.fdiv_nonneg ha0 (by omega), h4, h5⟩, ?_⟩
        refine x_seqR ?_
        rw [x_iteT ct, x_seq (x_set ha), x_seq (put (j := 1) rfl hm (d_add (g1 rfl hm) ev_cst) rfl)]
        refine x_seqR ?_
        show exec C _ [some (.obj q), some (.int many), none, some (.int a), none] _ = _
        rw [x_iteT (d_test cg rfl), x_seq (put (j := 2) rfl hm1 (d_fdiv (d_var rfl) (d_var rfl) hne) rfl)]
        rw [x_ret (d_mod (int_int (d_var rfl)) (d_var rfl) hne.1), List.set_set]
        rfl
      | false =>
        rw [hg] at cg
        have hm2 : ((m.set q (.lst ((P5 ns p 0 b s).set 1 (.int (p + 1))))).set q (.lst ((P5 ns (p + 1) 0 b s).set 3 (.int a))))[q]? = some (.lst (P5 ns (p + 1) 0 a s)) := List.getElem?_set_self (by simpa using hq)
        have step : exec C (.ite (.and (.cmp .eq (.bin .mod (.callB .int (.cons (.idx (.var 0) (.cst (.int 4))) .nil)) (.cst (.int 8))) (.cst (.int 0))) (.cmp .lt (.idx (.var 0) (.cst (.int 1))) (.callB .len (.cons (.idx (.var 0) (.cst (.int 0))) .nil)))) (.seq (.set 3 (.callB .abs (.cons (.idx (.idx (.var 0) (.cst (.int 0))) (.idx (.var 0) (.cst (.int 1)))) .nil))) (.seq (.setIdx (.var 0) (.cst (.int 1)) (.bin .add (.idx (.var 0) (.cst (.int 1))) (.cst (.int 1)))) (.seq (.ite (.cmp .ge (.var 3) (.bin .pow (.cst (.int 10)) (.cst (.int 18)))) (.seq (.setIdx (.var 0) (.cst (.int 2)) (.bin .fdiv (.var 3) (.var 1))) (.ret (.bin .mod (.callB .int (.cons (.var 3) .nil)) (.var 1)))) (.skip)) (.setIdx (.var 0) (.cst (.int 3)) (.var 3))))) .skip) [some (.obj q), some (.int many), none, none, none] m
            = .nxt [some (.obj q), some (.int many), none, some (.int a), none] ((m.set q (.lst ((P5 ns p 0 b s).set 1 (.int (p + 1))))).set q (.lst ((P5 ns (p + 1) 0 b s).set 3 (.int a)))) := by
          rw [x_iteT ct, x_seq (x_set ha), x_seq (put (j := 1) rfl hm (d_add (g1 rfl hm) ev_cst) rfl)]
          show exec C _ [some (.obj q), some (.int many), none, some (.int a), none] _ = _
          rw [x_seq (by rw [x_iteF (d_test cg rfl)]; rfl)]
          exact put (j := 3) rfl hm1 (d_var rfl) rfl
        rw [x_seq step]
        exact tail hm2 ⟨.lst ((P5 ns (p + 1) 0 b s).set 3 (.int a)), by rw [List.set_set]⟩ (by omega) (by omega) ha0 h5
    · have cf : test C (.and (.cmp .eq (.bin .mod (.callB .int (.cons (.idx (.var 0) (.cst (.int 4))) .nil)) (.cst (.int 8))) (.cst (.int 0))) (.cmp .lt (.idx (.var 0) (.cst (.int 1))) (.callB .len (.cons (.idx (.var 0) (.cst (.int 0))) .nil)))) [some (.obj q), some (.int many), none, none, none] m = .ok false m := by
        by_cases k : (s.fmod 8 == 0) = true
        · have hp : ¬ p < ns.length := fun z => hs ⟨k, z⟩
          rw [k] at c1
          have hcp : ordT .lt (compare p (ns.length : Int)) = false := by
            have : compare p (ns.length : Int) ≠ .lt := by rw [Ne, Int.compare_eq_lt]; exact hp
            unfold ordT
            cases hh : compare p (ns.length : Int) <;> simp_all
          rw [hcp] at c2
          exact d_test (d_andT c1 rfl c2) rfl
        · have k : (s.fmod 8 == 0) = false := by simpa using k
          rw [k] at c1
          exact d_test (d_andF c1 rfl) rfl
      rw [x_seq (by rw [x_iteF cf]; rfl)]
      exact tail hm self h1 h2 h4 h5
end
end MP
end

section
set_option Elab.async false
set_option linter.all false
set_option maxRecDepth 100000
set_option maxHeartbeats 0
/-! MQ7: names that a text does not set. -/
namespace MP
mutual
def wr : S → List Nat
  | .seq a b => wr a ++ wr b
  | .set i _ => [i]
  | .setBox i _ => [i]
  | .setMany is _ => is
  | .setPar i j _ _ => [i, j]
  | .ite _ a b => wr a ++ wr b
  | .for g _ body => (match g with | .one i => [i] | .many is => is) ++ wr body
  | .while _ body => wr body
  | .tryx body hs => wr body ++ wrH hs
  | .tryRef body _ => wr body
  | .freeze i => [i]
  | _ => []
def wrH : HS → List Nat
  | .nil => []
  | .cons _ i suite r => (match i with | some k => [k] | none => []) ++ wr suite ++ wrH r
end
def Keep (l : List Nat) (env env' : Env) : Prop := ∀ i, i ∉ l → env'.get i = env.get i
theorem Keep.refl {l : List Nat} {env : Env} : Keep l env env := fun _ _ => rfl
theorem Keep.trans {l : List Nat} {a b c : Env} (h : Keep l a b) (k : Keep l b c) : Keep l a c := fun i hi => (k i hi).trans (h i hi)
theorem Keep.mono {l l' : List Nat} {a b : Env} (h : Keep l a b) (s : ∀ i ∈ l, i ∈ l') : Keep l' a b := fun i hi => h i fun z => hi (s i z)
theorem Keep.set {l : List Nat} {env : Env} {i : Nat} {x : Option T} (h : i ∈ l) : Keep l env (env.set i x) := fun j hj => by
  rw [get_set, if_neg (fun e : i = j => hj (by rw [← e]; exact h))]
theorem Keep.all : ∀ {is : List Nat} {ts : List T} {env e1 : Env}, setAll env is ts = some e1 → Keep is env e1
  | [], [], _, _, e => by simp only [setAll, Option.some.injEq] at e; subst e; exact .refl
  | [], _ :: _, _, _, e => by simp [setAll] at e
  | _ :: _, [], _, _, e => by simp [setAll] at e
  | i :: is, t :: ts, env, e1, e => by
    have h := Keep.all (show setAll (env.set i (some t)) is ts = some e1 from e)
    exact (Keep.set (List.mem_cons_self ..)).trans (h.mono fun j hj => List.mem_cons_of_mem _ hj)
def Tgt.ws : Tgt → List Nat
  | .one i => [i]
  | .many is => is
theorem Keep.tgt {g : Tgt} {m : Store} {t : T} {env e1 : Env} (e : g.set m t env = some e1) : Keep g.ws env e1 := by
  cases g with
  | one i => simp only [Tgt.set, Option.some.injEq] at e; subst e; exact .set (List.mem_singleton.mpr rfl)
  | many is =>
    unfold Tgt.set at e
    simp only at e
    split at e
    · exact Keep.all e
    · obtain ⟨xs, _, h⟩ := Option.bind_eq_some_iff.mp e
      exact Keep.all h
def Out.ke (l : List Nat) (env : Env) : Out → Prop
  | .nxt e _ => Keep l env e
  | .brk e _ => Keep l env e
  | .cnt e _ => Keep l env e
  | .exc _ _ e _ => Keep l env e
  | _ => True
theorem Out.ke.mono {l l' : List Nat} {env : Env} {o : Out} (h : o.ke l env) (s : ∀ i ∈ l, i ∈ l') : o.ke l' env := by cases o <;> first | exact Keep.mono h s | trivial
theorem Out.ke.from {l : List Nat} {env env' : Env} {o : Out} (k : Keep l env env') (h : o.ke l env') : o.ke l env := by cases o <;> first | exact Keep.trans k h | trivial
theorem out_ke {α : Type} {l : List Nat} {env : Env} {r : Res α} {f : α → Store → Out} (h : ∀ a m, (f a m).ke l env) : (r.out env f).ke l env := by
  cases r with
  | ok a m => exact h a m
  | exc c xs m => exact .refl
  | stuck => trivial
theorem for_ke {l : List Nat} {w : Walk} {f : T → Env → Store → Out} (h : ∀ t env m, (f t env m).ke l env) : ∀ (xs : List T) (env : Env) (m : Store), (forLoop w f xs env m).ke l env
  | [], env, m => by unfold forLoop; split <;> first | exact Keep.refl | trivial
  | t :: r, env, m => by
    unfold forLoop
    split
    · have h1 := h t env m
      cases e : f t env m with
      | nxt e1 m1 => rw [e] at h1; exact .from h1 (for_ke h r e1 m1)
      | cnt e1 m1 => rw [e] at h1; exact .from h1 (for_ke h r e1 m1)
      | brk e1 m1 => rw [e] at h1; exact h1
      | ret t n m1 => trivial
      | exc k xs e1 m1 => rw [e] at h1; exact h1
      | stuck => trivial
    · trivial
theorem while_ke {l : List Nat} {d : Env → Store → Res Bool} {f : Env → Store → Out} (h : ∀ env m, (f env m).ke l env) : ∀ (n : Nat) (env : Env) (m : Store), (whileLoop d f n env m).ke l env
  | 0, _, _ => trivial
  | n + 1, env, m => by
    unfold whileLoop
    refine out_ke fun b m => ?_
    cases b with
    | false => exact Keep.refl
    | true =>
      simp only [if_true]
      have h1 := h env m
      cases e : f env m with
      | nxt e1 m1 => rw [e] at h1; exact .from h1 (while_ke h n e1 m1)
      | cnt e1 m1 => rw [e] at h1; exact .from h1 (while_ke h n e1 m1)
      | brk e1 m1 => rw [e] at h1; exact h1
      | ret t n m1 => trivial
      | exc k xs e1 m1 => rw [e] at h1; exact h1
      | stuck => trivial
section
variable {C : Ctx}
mutual
theorem exec_keep : ∀ (s : S) (env : Env) (m : Store), (exec C s env m).ke (wr s) env
  | .skip, _, _ => Keep.refl
  | .seq a b, env, m => by
    have h1 := exec_keep a env m
    show (match exec C a env m with | .nxt env m => exec C b env m | o => o).ke (wr a ++ wr b) env
    cases e : exec C a env m with
    | nxt e1 m1 =>
      rw [e] at h1
      exact .from (Keep.mono h1 fun i hi => List.mem_append_left _ hi) ((exec_keep b e1 m1).mono fun i hi => List.mem_append_right _ hi)
    | brk e1 m1 => rw [e] at h1; exact Keep.mono h1 fun i hi => List.mem_append_left _ hi
    | cnt e1 m1 => rw [e] at h1; exact Keep.mono h1 fun i hi => List.mem_append_left _ hi
    | exc k xs e1 m1 => rw [e] at h1; exact Keep.mono h1 fun i hi => List.mem_append_left _ hi
    | ret t n m1 => trivial
    | stuck => trivial
  | .set i e, env, m => out_ke fun t m => Keep.set (List.mem_singleton.mpr rfl)
  | .setBox i e, env, m => out_ke fun t m => by
    split
    · split
      · exact Keep.set (List.mem_singleton.mpr rfl)
      · trivial
    · trivial
  | .setMany is e, env, m => out_ke fun t m => by
    split
    · rename_i e1 h; exact Keep.tgt (g := .many is) h
    · trivial
  | .setPar i j a b, env, m => out_ke fun x m => out_ke fun y m => (Keep.set (l := [i, j]) (by simp)).trans (Keep.set (by simp))
  | .setIdx o k v, env, m => out_ke fun z m => out_ke fun x m => out_ke fun y m => by
    repeat' split
    all_goals first | exact Keep.refl | trivial
  | .setAttr o f v, env, m => out_ke fun z m => out_ke fun x m => by
    repeat' split
    all_goals first | exact Keep.refl | trivial
  | .setAttrBox o f v, env, m => out_ke fun t m => by
    split
    · split
      · refine out_ke fun x m => ?_
        repeat' split
        all_goals first | exact Keep.refl | trivial
      · trivial
    · trivial
  | .expr e, env, m => out_ke fun t m => Keep.refl
  | .ite d a b, env, m => out_ke fun r m => by
    cases r with
    | true => exact (exec_keep a env m).mono fun i hi => List.mem_append_left _ hi
    | false => exact (exec_keep b env m).mono fun i hi => List.mem_append_right _ hi
  | .for g it body, env, m => out_ke fun w m => by
    refine for_ke (fun t env m => ?_) w.xs env m
    cases h : g.set m t env with
    | none => trivial
    | some e1 =>
      have k : Keep (wr (.for g it body)) env e1 := (Keep.tgt h).mono fun i hi => List.mem_append_left _ (by cases g <;> exact hi)
      exact .from k ((exec_keep body e1 m).mono fun i hi => List.mem_append_right _ hi)
  | .while d body, env, m => while_ke (fun env m => exec_keep body env m) C.fuel env m
  | .brk, _, _ => Keep.refl
  | .cnt, _, _ => Keep.refl
  | .ret e, env, m => out_ke fun t m => trivial
  | .retNew e, env, m => out_ke fun t m => trivial
  | .retMove i, env, m => by
    show (match env.get i with | some (.obj n) => (match (m[n]?).bind Cell.tree with | some t => Out.ret t true (m.set n .dead) | none => .stuck) | some t => .ret t false m | none => .stuck).ke [] env
    repeat' split
    all_goals trivial
  | .raise k keep args, env, m => out_ke fun xs m => Keep.refl
  | .tryx body hs, env, m => by
    have h1 := exec_keep body env m
    show (match exec C body env m with | .exc k xs env m => execH C hs k xs env m | o => o).ke (wr body ++ wrH hs) env
    cases e : exec C body env m with
    | exc k xs e1 m1 => rw [e] at h1; exact .from (Keep.mono h1 fun i hi => List.mem_append_left _ hi) ((execH_keep hs k xs e1 m1).mono fun i hi => List.mem_append_right _ hi)
    | nxt e1 m1 => rw [e] at h1; exact Keep.mono h1 fun i hi => List.mem_append_left _ hi
    | brk e1 m1 => rw [e] at h1; exact Keep.mono h1 fun i hi => List.mem_append_left _ hi
    | cnt e1 m1 => rw [e] at h1; exact Keep.mono h1 fun i hi => List.mem_append_left _ hi
    | ret t n m1 => trivial
    | stuck => trivial
  | .tryRef body d, env, m => by
    have h1 := exec_keep body env m
    show (match exec C body env m with | .exc k xs env m => (match C.sub k d with | some true => (match C.rf k with | some s => Out.ret (.str s) false m | none => .stuck) | some false => .exc k xs env m | none => .stuck) | o => o).ke (wr body) env
    cases e : exec C body env m with
    | exc k xs e1 m1 =>
      rw [e] at h1
      dsimp only
      repeat' split
      all_goals first | exact h1 | trivial
    | nxt e1 m1 => rw [e] at h1; exact h1
    | brk e1 m1 => rw [e] at h1; exact h1
    | cnt e1 m1 => rw [e] at h1; exact h1
    | ret t n m1 => trivial
    | stuck => trivial
  | .freeze i, env, m => by
    show (match env.get i with | none => Out.stuck | some (.obj n) => (match (m[n]?).bind Cell.tree with | some t => Out.nxt (env.set i (some t)) (m.set n .dead) | none => .stuck) | some _ => .nxt env m).ke [i] env
    repeat' split
    all_goals first | exact Keep.set (List.mem_singleton.mpr rfl) | exact Keep.refl | trivial
theorem execH_keep : ∀ (hs : HS) (k : Nat) (xs : List T) (env : Env) (m : Store), (execH C hs k xs env m).ke (wrH hs) env
  | .nil, _, _, _, _ => Keep.refl
  | .cons d i suite r, k, xs, env, m => by
    show (match C.sub k d with | some true => (match i with | none => exec C suite env m | some j => (exec C suite (env.set j (some (.exc k xs))) m).unset i) | some false => execH C r k xs env m | none => .stuck).ke ((match i with | some k => [k] | none => []) ++ wr suite ++ wrH r) env
    cases C.sub k d with
    | none => trivial
    | some b =>
    cases b with
    | false => exact (execH_keep r k xs env m).mono fun i hi => List.mem_append_right _ hi
    | true =>
      cases i with
      | none => exact (exec_keep suite env m).mono fun i hi => List.mem_append_left _ (List.mem_append_right _ hi)
      | some j =>
        have h := (exec_keep suite (env.set j (some (.exc k xs))) m).mono (l' := [j] ++ wr suite ++ wrH r) fun i hi => List.mem_append_left _ (List.mem_append_right _ hi)
        have h := Out.ke.from (Keep.set (l := [j] ++ wr suite ++ wrH r) (env := env) (x := some (.exc k xs)) (by simp)) h
        dsimp only
        cases e : exec C suite (env.set j (some (.exc k xs))) m with
        | nxt e1 m1 => rw [e] at h; exact Keep.trans h (Keep.set (by simp))
        | brk e1 m1 => rw [e] at h; exact Keep.trans h (Keep.set (by simp))
        | cnt e1 m1 => rw [e] at h; exact Keep.trans h (Keep.set (by simp))
        | ret t n m1 => trivial
        | exc a b e1 m1 => rw [e] at h; exact h
        | stuck => trivial
end
end
end MP
end

section
set_option Elab.async false
set_option linter.all false
set_option maxRecDepth 100000
set_option maxHeartbeats 0
/-! MQ8: known slots, loops. -/
namespace MP
def none_ (n : Nat) : Env := List.replicate n none
theorem LeE.base {n : Nat} {env : Env} (h : env.length = n) : LeE (none_ n) env := by
  refine ⟨by simp [none_, h], fun i t e => ?_⟩
  unfold none_ Env.get at e
  rw [List.getElem?_replicate] at e
  split at e <;> cases e
theorem LeE.put {env env' : Env} {i : Nat} {t : T} (h : LeE env env') (e : env'.get i = some t) : LeE (env.set i (some t)) env' := by
  refine ⟨by simp [h.len], fun j u q => ?_⟩
  rw [get_set] at q
  split at q
  · rename_i hj
    subst hj
    split at q
    · cases q; exact e
    · cases q
  · exact h.at_ j u q
theorem for_inv {w : Walk} {f : T → Env → Store → Out} {I : Env → Store → Prop} (hw : w.at? = none) (h : ∀ t env m, I env m → ∃ env' m', f t env m = .nxt env' m' ∧ I env' m') : ∀ (xs : List T) {env : Env} {m : Store}, I env m → ∃ env' m', forLoop w f xs env m = .nxt env' m' ∧ I env' m'
  | [], env, m, i => by
    refine ⟨env, m, ?_, i⟩
    unfold forLoop
    rw [if_pos (by unfold Walk.ok; rw [hw])]
  | t :: r, env, m, i => by
    obtain ⟨e1, m1, q, i1⟩ := h t env m i
    obtain ⟨e2, m2, q2, i2⟩ := for_inv hw h r i1
    refine ⟨e2, m2, ?_, i2⟩
    unfold forLoop
    rw [if_pos (by unfold Walk.ok; rw [hw]), q]
    exact q2
theorem set_get {env : Env} {i : Nat} {t : T} (h : i < env.length) : Env.get (env.set i (some t)) i = some t := by rw [get_set, if_pos rfl, if_pos h]
theorem set_get_ne {env : Env} {i j : Nat} {x : Option T} (h : i ≠ j) : Env.get (env.set i x) j = env.get j := by rw [get_set, if_neg h]
end MP
end

section
set_option Elab.async false
set_option linter.all false
set_option maxRecDepth 100000
set_option maxHeartbeats 0
/-! MQ9: comprehensions whose turns leave the store alone. -/
namespace MP
theorem wok_none {w : Walk} {m : Store} (h : w.at? = none) : w.ok m = true := by unfold Walk.ok; rw [h]
theorem compL_pure {w : Walk} {f : T → Store → Res (Option T)} {g : T → Option T} {m : Store} (hw : w.at? = none) : ∀ xs : List T, (∀ t ∈ xs, f t m = .ok (g t) m) → compL w f xs m = .ok (xs.filterMap g) m
  | [], _ => by unfold compL; rw [if_pos (wok_none hw)]; rfl
  | t :: r, h => by
    unfold compL
    rw [if_pos (wok_none hw), h t (List.mem_cons_self ..)]
    simp only
    rw [compL_pure hw r fun x hx => h x (List.mem_cons_of_mem _ hx)]
    simp only
    cases e : g t with
    | none => rw [List.filterMap_cons, e]
    | some y => rw [List.filterMap_cons, e]
theorem compLs_pure {w : Walk} {f : T → Store → Res (List T)} {g : T → List T} {m : Store} (hw : w.at? = none) : ∀ xs : List T, (∀ t ∈ xs, f t m = .ok (g t) m) → compLs w f xs m = .ok (xs.flatMap g) m
  | [], _ => by unfold compLs; rw [if_pos (wok_none hw)]; rfl
  | t :: r, h => by
    unfold compLs
    rw [if_pos (wok_none hw), h t (List.mem_cons_self ..)]
    simp only
    rw [compLs_pure hw r fun x hx => h x (List.mem_cons_of_mem _ hx)]
    rfl
end MP
end

section
set_option Elab.async false
set_option linter.all false
set_option maxRecDepth 100000
set_option maxHeartbeats 0
/-! MQ10: more steps. -/
namespace MP
theorem ctx_call {P : Prog} {k f : Nat} {ts : List T} {m : Store} : (ctxN P k).call f ts m = callN P k f ts m := rfl
variable {C : Ctx} {env : Env} {m m1 m2 : Store}
theorem ex_expr {e} : exec C (.expr e) env m = (eval C e env m).out env fun _ m => .nxt env m := rfl
theorem ex_for {tg it body} : exec C (.for tg it body) env m = (evalI C it env m).out env fun w m => forLoop w (fun t env m => (Res.ofO (tg.set m t env) m).out env fun env m => exec C body env m) w.xs env m := rfl
theorem ex_setBox {i e} : exec C (.setBox i e) env m = (evalNew C e env m).out env fun t m => if t.2 then (match cellOf t.1 with | some c => .nxt (env.set i (some (.obj m.length))) (m ++ [c]) | none => .stuck) else .stuck := rfl
theorem ex_tryRef {body d} : exec C (.tryRef body d) env m = (match exec C body env m with
      | .exc c xs env m => (match C.sub c d with
        | some true => (match C.rf c with | some s => .ret (.str s) false m | none => .stuck)
        | some false => .exc c xs env m
        | none => .stuck)
      | o => o) := rfl
theorem then_nxt {f : Env → Store → Out} : (Out.nxt env m).then_ f = f env m := rfl
theorem ds_nil : evals C .nil env m = .ok [] m := rfl
theorem ds_cons {e : E} {r : EL} {x : T} {xs : List T} (h : eval C e env m = .ok x m1) (hr : evals C r env m1 = .ok xs m2) : evals C (.cons e r) env m = .ok (x :: xs) m2 := by rw [evs_cons, h, Res.bind_ok, hr]; rfl
theorem d_call {f : Nat} {args : EL} {ts ds : List T} {r : T × Bool} (h : evals C args env m = .ok ts m1) (hc : C.call f (ts ++ ds) m1 = .ok r m2) : eval C (.callF f args ds) env m = .ok r.1 m2 := by rw [ev_callF, h, Res.bind_ok, hc]; rfl
theorem d_callX {f : Nat} {args : EL} {ts ds : List T} {c : Nat} {xs : List T} (h : evals C args env m = .ok ts m1) (hc : C.call f (ts ++ ds) m1 = .exc c xs m2) : eval C (.callF f args ds) env m = .exc c xs m2 := by rw [ev_callF, h, Res.bind_ok, hc]; rfl
theorem c_call {P : Prog} {k f : Nat} {args : EL} {ts ds : List T} {r : T × Bool} (h : evals (ctxN P k) args env m = .ok ts m1) (hc : callN P k f (ts ++ ds) m1 = .ok r m2) : eval (ctxN P k) (.callF f args ds) env m = .ok r.1 m2 := d_call h hc
theorem c_callX {P : Prog} {k f : Nat} {args : EL} {ts : List T} {c : Nat} {xs : List T} (h : evals (ctxN P k) args env m = .ok ts m1) (hc : callN P k f ts m1 = .exc c xs m2) : eval (ctxN P k) (.callF f args []) env m = .exc c xs m2 := d_callX h (by rw [List.append_nil]; exact hc)
theorem c_call0 {P : Prog} {k f : Nat} {args : EL} {ts : List T} {r : T × Bool} (h : evals (ctxN P k) args env m = .ok ts m1) (hc : callN P k f ts m1 = .ok r m2) : eval (ctxN P k) (.callF f args []) env m = .ok r.1 m2 := d_call h (by rw [List.append_nil]; exact hc)
theorem x_expr {e : E} {t : T} (h : eval C e env m = .ok t m1) : exec C (.expr e) env m = .nxt env m1 := by rw [ex_expr, h]; rfl
theorem x_exprX {e : E} {c : Nat} {xs : List T} (h : eval C e env m = .exc c xs m1) : exec C (.expr e) env m = .exc c xs env m1 := by rw [ex_expr, h]; rfl
theorem x_seqX {a b : S} {c : Nat} {xs : List T} {env1 : Env} (h : exec C a env m = .exc c xs env1 m1) : exec C (.seq a b) env m = .exc c xs env1 m1 := by rw [exec_seq, h]; rfl
theorem x_tryRef {body : S} {d c : Nat} {xs : List T} {env1 : Env} {s : Nm} (h : exec C body env m = .exc c xs env1 m1) (hs : C.sub c d = some true) (hr : C.rf c = some s) : exec C (.tryRef body d) env m = .ret (.str s) false m1 := by
  rw [ex_tryRef, h]; simp only [hs, hr]
theorem c_tryRef {P : Prog} {k : Nat} {body : S} {d c : Nat} {xs : List T} {env1 : Env} {s : Nm} (h : exec (ctxN P k) body env m = .exc c xs env1 m1) (hs : P.sub c d = some true) (hr : P.rf c = some s) : exec (ctxN P k) (.tryRef body d) env m = .ret (.str s) false m1 := x_tryRef h hs hr
theorem fin_ret {t : T} {n : Bool} : finish (.ret t n m) = .ok (t, n) m := rfl
theorem callN_f {P : Prog} {k i : Nat} {ts : List T} {f : Fn} (hf : P.fns[i]? = some f) (hg : f.gc = false) (hl : ts.length = f.np) : callN P (k + 1) i ts m = finish (exec (ctxN P k) f.body (start f ts) m) := by
  show (match P.fns[i]? with
    | none => Res.stuck
    | some f => if ts.length = f.np then
        (if f.gc then (if T.upTos 0 ts then alone m (finish (exec (ctxN P k) f.body (start f ts) [])) else .stuck)
        else finish (exec (ctxN P k) f.body (start f ts) m)) else .stuck) = _
  rw [hf]
  simp only [hl, hg, if_true, Bool.false_eq_true, if_false]
theorem callN_g {P : Prog} {k i : Nat} {ts : List T} {f : Fn} (hf : P.fns[i]? = some f) (hg : f.gc = true) (hl : ts.length = f.np) (hu : T.upTos 0 ts = true) : callN P (k + 1) i ts m = alone m (finish (exec (ctxN P k) f.body (start f ts) [])) := by
  show (match P.fns[i]? with
    | none => Res.stuck
    | some f => if ts.length = f.np then
        (if f.gc then (if T.upTos 0 ts then alone m (finish (exec (ctxN P k) f.body (start f ts) [])) else .stuck)
        else finish (exec (ctxN P k) f.body (start f ts) m)) else .stuck) = _
  rw [hf]
  simp only [hl, hg, hu, if_true]
theorem alone_ok {t : T} {n : Bool} (h : T.upTo 0 t = true) : alone m (.ok (t, n) m1) = .ok (t, n) m := by
  show (if T.upTo 0 t = true then _ else _) = _
  rw [if_pos h]
theorem d_setBox {i : Nat} {e : E} {t : T} {c : Cell} (h : evalNew C e env m = .ok (t, true) m1) (hc : cellOf t = some c) : exec C (.setBox i e) env m = .nxt (env.set i (some (.obj m1.length))) (m1 ++ [c]) := by
  rw [ex_setBox, h, Res.out_ok]; simp only [hc]; rfl
theorem n_call {f : Nat} {args : EL} {ts ds : List T} {r : T × Bool} (h : evals C args env m = .ok ts m1) (hc : C.call f (ts ++ ds) m1 = .ok r m2) : evalNew C (.callF f args ds) env m = .ok r m2 := by
  show (evals C args env m).bind _ = _
  rw [h, Res.bind_ok, hc]
theorem forL_nxt {w : Walk} {f : T → Env → Store → Out} {t : T} {r : List T} {env e1 : Env} {m m1 : Store} (hw : w.at? = none) (h : f t env m = .nxt e1 m1) : forLoop w f (t :: r) env m = forLoop w f r e1 m1 := by
  conv => lhs; unfold forLoop
  rw [if_pos (wok_none hw), h]
theorem forL_exc {w : Walk} {f : T → Env → Store → Out} {t : T} {r : List T} {env e1 : Env} {m m1 : Store} {c : Nat} {xs : List T} (hw : w.at? = none) (h : f t env m = .exc c xs e1 m1) : forLoop w f (t :: r) env m = .exc c xs e1 m1 := by
  conv => lhs; unfold forLoop
  rw [if_pos (wok_none hw), h]
end MP
end

section
set_option Elab.async false
set_option linter.all false
set_option maxRecDepth 100000
set_option maxHeartbeats 0
/-! MQ11: a law's own state: the pool at cell 0 (name 1). -/
namespace MP
structure St (ns : List Int) (L n : Nat) (env : Env) (m : Store) : Prop where
  len : env.length = L
  p : env.get 1 = some (.obj 0)
  ml : m.length = n
  pool : ∃ c, m[0]? = some c ∧ Pool ns c
variable {ns : List Int} {L n : Nat} {env env' : Env} {m m' : Store} {P : Prog} {k i : Nat}
theorem St.set (h : St ns L n env m) {j : Nat} {x : Option T} (hj : j ≠ 1) : St ns L n (env.set j x) m := ⟨by simp [h.len], by rw [set_get_ne hj]; exact h.p, h.ml, h.pool⟩
theorem draw_call (hf : P.fns[i]? = some ⟨2, 5, false, drawS⟩) {c : Cell} {many : Int} (hc : Pool ns c) (hm : m[0]? = some c) (hn : 1 ≤ many) (hx : many < 1073741824) :
    ∃ v c', 0 ≤ v ∧ v < many ∧ Pool ns c' ∧ callN P (k + 1) i [.obj 0, .int many] m = .ok (.int v, false) (m.set 0 c') := by
  obtain ⟨v, c', h1, h2, h3, h4⟩ := draw_ok (C := ctxN P k) hc hm hn hx
  refine ⟨v, c', h1, h2, h3, ?_⟩
  rw [callN_f hf rfl rfl]
  show finish (exec (ctxN P k) drawS [some (.obj 0), some (.int many), none, none, none] m) = _
  rw [h4]; rfl
theorem St.put (h : St ns L n env m) {c : Cell} (hc : Pool ns c) : St ns L n env (m.set 0 c) := by
  obtain ⟨c0, h0, _⟩ := h.pool
  exact ⟨h.len, h.p, by simp [h.ml], c, by rw [List.getElem?_set_self (at_lt h0)], hc⟩
theorem draw_ev (hf : P.fns[i]? = some ⟨2, 5, false, drawS⟩) (h : St ns L n env m) {a : E} {many : Int} (ha : eval (ctxN P (k + 1)) a env m = .ok (.int many) m) (hn : 1 ≤ many) (hx : many < 1073741824) :
    ∃ v m', 0 ≤ v ∧ v < many ∧ eval (ctxN P (k + 1)) (.callF i (.cons (.var 1) (.cons a .nil)) []) env m = .ok (.int v) m' ∧ St ns L n env m' := by
  obtain ⟨c, hm, hc⟩ := h.pool
  obtain ⟨v, c', h1, h2, h3, h4⟩ := draw_call (k := k) hf hc hm hn hx
  exact ⟨v, _, h1, h2, c_call0 (r := (.int v, false)) (ds_cons (d_var h.p) (ds_cons ha ds_nil)) h4, h.put h3⟩
def pickS (i : Nat) : S := .ret (.idx (.var 1) (.callF i (.cons (.var 0) (.cons (.callB .len (.cons (.var 1) .nil)) .nil)) []))
theorem pick_call {j : Nat} (hf : P.fns[i]? = some ⟨2, 5, false, drawS⟩) (hj : P.fns[j]? = some ⟨2, 2, false, pickS i⟩) {c : Cell} {xs : List T} (hc : Pool ns c) (hm : m[0]? = some c) (hn : xs ≠ []) (hx : xs.length < 1073741824) :
    ∃ x c', x ∈ xs ∧ Pool ns c' ∧ callN P (k + 2) j [.obj 0, .lst xs] m = .ok (x, false) (m.set 0 c') := by
  have hl : 1 ≤ (xs.length : Int) := by
    have := List.length_pos_iff.mpr hn
    omega
  obtain ⟨v, c', h1, h2, h3, h4⟩ := draw_call (k := k) hf hc hm hl (by omega)
  have hv : v.toNat < xs.length := by omega
  refine ⟨xs[v.toNat], c', List.getElem_mem _, h3, ?_⟩
  rw [callN_f hj rfl rfl]
  show finish (exec (ctxN P (k + 1)) (pickS i) [some (.obj 0), some (.lst xs)] m) = _
  have ix : idxT (m.set 0 c') (.lst xs) (.int v) = some xs[v.toNat] := by
    show (ixT xs.length v).bind _ = _
    unfold ixT
    rw [if_pos h1, if_pos h2]
    simp [hv]
  unfold pickS
  rw [x_ret (d_idx (d_var (t := .lst xs) rfl) (c_call0 (r := (.int v, false)) (ds_cons (d_var (t := .obj 0) rfl) (ds_cons (d_bi1 (y := .int xs.length) (d_var (t := .lst xs) rfl) rfl) ds_nil)) h4) ix)]
  rfl
theorem pick_ev {j : Nat} (hf : P.fns[i]? = some ⟨2, 5, false, drawS⟩) (hj : P.fns[j]? = some ⟨2, 2, false, pickS i⟩) (h : St ns L n env m) {a : E} {xs : List T} (ha : eval (ctxN P (k + 2)) a env m = .ok (.lst xs) m) (hn : xs ≠ []) (hx : xs.length < 1073741824) :
    ∃ x m', x ∈ xs ∧ eval (ctxN P (k + 2)) (.callF j (.cons (.var 1) (.cons a .nil)) []) env m = .ok x m' ∧ St ns L n env m' := by
  obtain ⟨c, hm, hc⟩ := h.pool
  obtain ⟨x, c', h1, h3, h4⟩ := pick_call (k := k) hf hj hc hm hn hx
  exact ⟨x, _, h1, c_call0 (r := (x, false)) (ds_cons (d_var h.p) (ds_cons ha ds_nil)) h4, h.put h3⟩
abbrev deads (n : Nat) : Store := List.replicate n .dead
def H0 (c : Cell) (n : Nat) : Option Cell := if n = 0 then some c else none
theorem le_deads {c : Cell} (hn : 0 < n) (hl : m.length = n) (hm : m[0]? = some c) : Le (H0 c) (deads n) m := by
  refine ⟨by simp [hl], fun q d e => ?_, fun q d e ne => ?_⟩
  · unfold H0 at e
    split at e
    · rename_i hq
      subst hq; cases e
      exact ⟨by rw [List.getElem?_replicate, if_pos hn], hm⟩
    · cases e
  · rw [List.getElem?_replicate] at e
    split at e
    · cases e; exact absurd rfl ne
    · cases e
/-- a part that asks for no draw -/
theorem part (no : List Nat) {s : S} {e1 : Env} {m1 : Store} (st : St ns L n env' m') (h : exec (shut no (ctxN P k)) s env (deads n) = .nxt e1 m1) (le : LeE env env') (hn : 0 < n) (hw : 1 ∉ wr s) (hl : e1.length = L) :
    ∃ e1' m1', exec (ctxN P k) s env' m' = .nxt e1' m1' ∧ LeE e1 e1' ∧ Keep (wr s) env' e1' ∧ St ns L m1.length e1' m1' := by
  obtain ⟨c, hm, hc⟩ := st.pool
  have u := exec_up (shutN (hid := H0 c) P no k) s le (le_deads hn st.ml hm)
  rw [h] at u
  obtain ⟨e1', m1', q, le1, l1⟩ := u
  have kp : Keep (wr s) env' e1' := by
    have z := exec_keep (C := ctxN P k) s env' m'
    rw [q] at z
    exact z
  exact ⟨e1', m1', q, le1, kp, le1.len.symm.trans hl, (kp 1 hw).trans st.p, l1.len.symm, c, (l1.hd 0 c rfl).2, hc⟩
theorem St.len' (h : St ns L n env m) : env.length = L := h.len
end MP
end

section
set_option Elab.async false
set_option linter.all false
set_option maxRecDepth 100000
set_option maxHeartbeats 0
/-! MQ12: comprehensions over typed lists, sorted, calls of defs that run alone. -/
namespace MP
section
variable {α : Type}
def insBy (f : α → T) (x : α) : List α → List α
  | [] => [x]
  | y :: r => if ltT (f y) (f x) then y :: insBy f x r else x :: y :: r
def sortBy (f : α → T) : List α → List α
  | [] => []
  | x :: r => insBy f x (sortBy f r)
theorem insBy_map (f : α → T) (x : α) : ∀ l : List α, (insBy f x l).map f = insT (f x) (l.map f)
  | [] => rfl
  | y :: r => by
    show (if ltT (f y) (f x) then y :: insBy f x r else x :: y :: r).map f = (if ltT (f y) (f x) then f y :: insT (f x) (r.map f) else f x :: f y :: r.map f)
    split
    · rw [List.map_cons, insBy_map f x r]
    · rfl
theorem sortBy_map (f : α → T) : ∀ l : List α, (sortBy f l).map f = sortT (l.map f)
  | [] => rfl
  | x :: r => by
    show (insBy f x (sortBy f r)).map f = insT (f x) (sortT (r.map f))
    rw [insBy_map, sortBy_map f r]
theorem insBy_perm (f : α → T) (x : α) : ∀ l : List α, (insBy f x l).Perm (x :: l)
  | [] => .refl _
  | y :: r => by
    unfold insBy
    split
    · exact ((insBy_perm f x r).cons y).trans (List.Perm.swap x y r)
    · exact .refl _
theorem sortBy_perm (f : α → T) : ∀ l : List α, (sortBy f l).Perm l
  | [] => .refl _
  | x :: r => (insBy_perm f x (sortBy f r)).trans ((sortBy_perm f r).cons x)
theorem ltT_int (a b : Int) : ltT (.int a) (.int b) = decide (a < b) := by
  show (decide (a < b) || (!(decide (b < a)) && false)) = _
  rw [Bool.and_false, Bool.or_false]
theorem insI_sorted (x : Int) : ∀ {l : List Int}, l.Pairwise (· ≤ ·) → (insBy T.int x l).Pairwise (· ≤ ·)
  | [], _ => List.pairwise_singleton _ _
  | y :: r, h => by
    obtain ⟨h1, h2⟩ := List.pairwise_cons.mp h
    unfold insBy
    rw [ltT_int]
    by_cases q : y < x
    · rw [if_pos (by simpa using q)]
      refine List.pairwise_cons.mpr ⟨fun z hz => ?_, insI_sorted x h2⟩
      rcases List.mem_cons.mp ((insBy_perm T.int x r).mem_iff.mp hz) with rfl | hz
      · omega
      · exact h1 z hz
    · rw [if_neg (by simpa using q)]
      refine List.pairwise_cons.mpr ⟨fun z hz => ?_, h⟩
      rcases List.mem_cons.mp hz with rfl | hz
      · omega
      · have := h1 z hz; omega
theorem sortI_sorted : ∀ l : List Int, (sortBy T.int l).Pairwise (· ≤ ·)
  | [] => List.Pairwise.nil
  | x :: r => insI_sorted x (sortI_sorted r)
theorem sortI_eq {l l' : List Int} (p : l.Perm l') : sortBy T.int l = sortBy T.int l' :=
  List.Perm.eq_of_pairwise (le := (· ≤ ·)) (fun a b _ _ h1 h2 => Int.le_antisymm h1 h2) (sortI_sorted l) (sortI_sorted l') (((sortBy_perm T.int l).trans p).trans (sortBy_perm T.int l').symm)
theorem sortOk_of {xs : List T} {k : Nat × List Bool} (h : ∀ x ∈ xs, sortKd x = some k) (hk : k.1 ≠ 1) : sortOk xs = true := by
  cases xs with
  | nil => rfl
  | cons x r =>
    unfold sortOk
    simp only [h x (List.mem_cons_self ..), Bool.and_eq_true]
    refine ⟨List.all_eq_true.mpr fun y hy => by rw [h y (List.mem_cons_of_mem _ hy)]; simp, ?_⟩
    split
    · exfalso
      have := h _ (List.mem_cons_self ..)
      simp [sortKd] at this
      rw [← this] at hk; exact hk rfl
    · rfl
variable {C : Ctx} {env : Env} {m m1 m2 : Store}
theorem compL_typed {w : Walk} {F : T → Store → Res (Option T)} {f v : α → T} {p : α → Bool} (hw : w.ok m = true) : ∀ l : List α, (∀ a ∈ l, F (f a) m = .ok (if p a then some (v a) else none) m) → compL w F (l.map f) m = .ok ((l.filter p).map v) m
  | [], _ => compL_nil' hw
  | a :: r, h => by
    rw [List.map_cons]
    conv => lhs; unfold compL
    rw [if_pos hw, h a (List.mem_cons_self ..)]
    simp only [compL_typed hw r fun b hb => h b (List.mem_cons_of_mem _ hb)]
    cases hp : p a with
    | true => rw [List.filter_cons_of_pos hp]; rfl
    | false => rw [List.filter_cons_of_neg (by rw [hp]; decide)]; rfl
where
  compL_nil' {w : Walk} {f : T → Store → Res (Option T)} {m : Store} (hw : w.ok m = true) : compL w f [] m = .ok [] m := by
    unfold compL
    rw [if_pos hw]
theorem ev_comp {own tg it c e} : eval C (.comp own tg it c e) env m = (evalI C it env m).bind fun w m =>
      (compL w (fun t m => (Res.ofO (tg.set m t (wipe env own)) m).bind fun env m =>
        (eval C c env m).bind fun x m => (Res.ofO (truth m x) m).bind fun r m => if r then (eval C e env m).bind fun y m => .ok (some y) m else .ok none m) w.xs m).bind shortL := rfl
theorem d_of {e : E} {xs : List T} (h : eval C e env m = .ok (.lst xs) m) : evalI C (.of e) env m = .ok ⟨xs, none, false⟩ m := by
  show (eval C e env m).bind _ = _
  rw [h]; rfl
theorem d_compW {own tg it c e} {l : List α} {f v : α → T} {p : α → Bool} {w : Walk} {E : α → Env} (hi : evalI C it env m = .ok w m) (hx : w.xs = l.map f) (hw : w.ok m = true)
    (ht : ∀ a ∈ l, tg.set m (f a) (wipe env own) = some (E a)) (hc : ∀ a ∈ l, eval C c (E a) m = .ok (.bl (p a)) m) (hv : ∀ a ∈ l, p a = true → eval C e (E a) m = .ok (v a) m) (hl : l.length ≤ LINE) :
    eval C (.comp own tg it c e) env m = .ok (.lst ((l.filter p).map v)) m := by
  rw [ev_comp, hi, Res.bind_ok, hx, compL_typed (p := p) (v := v) hw l fun a ha => ?_, Res.bind_ok]
  · unfold shortL
    rw [if_pos]
    rw [List.length_map]
    exact Nat.le_trans (List.length_filter_le ..) hl
  · rw [ht a ha, Res.ofO_some, Res.bind_ok, hc a ha, Res.bind_ok]
    show (if p a = true then _ else _) = _
    cases hp : p a with
    | true => rw [if_pos rfl, hv a ha hp]; rfl
    | false => rfl
theorem compLX_typed {w : Walk} {F : T → Store → Res (Option T)} {f v : α → T} (hw : w.ok m = true) : ∀ l : List α, (∀ a ∈ l, F (f a) m = .ok (some (v a)) m) → compLX w F (l.map f) m = .ok (l.map v) m
  | [], _ => by
    rw [List.map_nil, List.map_nil]; unfold compLX; rw [if_pos hw]
  | a :: r, h => by
    rw [List.map_cons, List.map_cons]
    conv => lhs; unfold compLX
    rw [if_pos hw, h a (List.mem_cons_self ..)]
    simp only [compLX_typed hw r fun b hb => h b (List.mem_cons_of_mem _ hb)]
theorem ev_compX {own tg it c e} : eval C (.compX own tg it c e) env m = (evalI C it env m).bind fun w m => if w.xs.length ≤ LINE then
      (compLX w (fun t m => (Res.ofO (tg.set m t (wipe env own)) m).bind fun env m =>
        (eval C c env m).bind fun x m => (Res.ofO (truth m x) m).bind fun r m => if r then (eval C e env m).bind fun y m => .ok (some y) m else .ok none m) w.xs m).bind shortL else .stuck := rfl
theorem d_mapX {own tg it e} {l : List α} {f v : α → T} {d : Bool} {E : α → Env} (hi : evalI C it env m = .ok ⟨l.map f, none, d⟩ m)
    (ht : ∀ a ∈ l, tg.set m (f a) (wipe env own) = some (E a)) (hv : ∀ a ∈ l, eval C e (E a) m = .ok (v a) m) (hl : l.length ≤ LINE) :
    eval C (.compX own tg it (.cst (.bl true)) e) env m = .ok (.lst (l.map v)) m := by
  rw [ev_compX, hi, Res.bind_ok, if_pos (by rw [List.length_map]; exact hl), compLX_typed (v := v) (wok_none rfl) l fun a ha => ?_, Res.bind_ok]
  · unfold shortL
    rw [if_pos (by rw [List.length_map]; exact hl)]
  · rw [ht a ha, Res.ofO_some, Res.bind_ok, ev_cst, Res.bind_ok]
    show (eval C e (E a) m).bind _ = _
    rw [hv a ha]; rfl
theorem compLX_exc {w : Walk} {F : T → Store → Res (Option T)} {t : T} {r : List T} {c : Nat} {xs : List T} (hw : w.ok m = true) (h : F t m = .exc c xs m1) : compLX w F (t :: r) m = .exc c xs m1 := by
  conv => lhs; unfold compLX
  rw [if_pos hw, h]
/-- the first one raises -/
theorem d_compX1 {own tg it e} {t : T} {r : List T} {d : Bool} {env1 : Env} {c : Nat} {xs : List T} (hi : evalI C it env m = .ok ⟨t :: r, none, d⟩ m)
    (ht : tg.set m t (wipe env own) = some env1) (he : eval C e env1 m = .exc c xs m1) (hl : (t :: r).length ≤ LINE) :
    eval C (.compX own tg it (.cst (.bl true)) e) env m = .exc c xs m1 := by
  rw [ev_compX, hi, Res.bind_ok, if_pos hl, compLX_exc (wok_none rfl) (c := c) (xs := xs) (m1 := m1) ?_]
  · rfl
  · rw [ht, Res.ofO_some, Res.bind_ok, ev_cst, Res.bind_ok]
    show (eval C e env1 m).bind _ = _
    rw [he]; rfl
theorem d_comp {own tg it c e} {l : List α} {f v : α → T} {p : α → Bool} {d : Bool} {E : α → Env} (hi : evalI C it env m = .ok ⟨l.map f, none, d⟩ m)
    (ht : ∀ a ∈ l, tg.set m (f a) (wipe env own) = some (E a)) (hc : ∀ a ∈ l, eval C c (E a) m = .ok (.bl (p a)) m) (hv : ∀ a ∈ l, p a = true → eval C e (E a) m = .ok (v a) m) (hl : l.length ≤ LINE) :
    eval C (.comp own tg it c e) env m = .ok (.lst ((l.filter p).map v)) m := d_compW hi rfl (wok_none rfl) ht hc hv hl
theorem d_map {own tg it e} {l : List α} {f v : α → T} {d : Bool} {E : α → Env} (hi : evalI C it env m = .ok ⟨l.map f, none, d⟩ m)
    (ht : ∀ a ∈ l, tg.set m (f a) (wipe env own) = some (E a)) (hv : ∀ a ∈ l, eval C e (E a) m = .ok (v a) m) (hl : l.length ≤ LINE) :
    eval C (.comp own tg it (.cst (.bl true)) e) env m = .ok (.lst (l.map v)) m := by
  have := d_comp (p := fun _ => true) hi ht (fun a _ => ev_cst) (fun a ha _ => hv a ha) hl
  rw [List.filter_eq_self.mpr fun _ _ => rfl] at this
  exact this
theorem d_len {a : E} {xs : List T} (h : eval C a env m = .ok (.lst xs) m) : eval C (.callB .len (.cons a .nil)) env m = .ok (.int xs.length) m := d_bi1 h rfl
theorem d_sorted {a : E} {l : List α} {f : α → T} {k : Nat × List Bool} (h : eval C a env m = .ok (.lst (l.map f)) m) (hk : ∀ x ∈ l, sortKd (f x) = some k) (h1 : k.1 ≠ 1) : eval C (.callB .sorted (.cons a .nil)) env m = .ok (.lst ((sortBy f l).map f)) m := by
  refine d_bi1 h ?_
  have ok : sortOk (l.map f) = true := sortOk_of (k := k) (fun x hx => by obtain ⟨y, hy, rfl⟩ := List.mem_map.mp hx; exact hk y hy) h1
  show (if sortOk (l.map f) then some (T.lst (sortT (l.map f))) else none) = _
  rw [ok, sortBy_map]; rfl
theorem d_not {a : E} {x : T} {b : Bool} (h : eval C a env m = .ok x m1) (ht : truth m1 x = some b) : eval C (.not a) env m = .ok (.bl (!b)) m1 := by rw [ev_not, h, Res.bind_ok, ht]; rfl
theorem d_orT {a b : E} {x : T} (h : eval C a env m = .ok x m1) (ht : truth m1 x = some true) : eval C (.or a b) env m = .ok x m1 := by rw [ev_or, h, Res.bind_ok, ht]; rfl
theorem d_orF {a b : E} {x : T} {r : Res T} (h : eval C a env m = .ok x m1) (ht : truth m1 x = some false) (hb : eval C b env m1 = r) : eval C (.or a b) env m = r := by rw [ev_or, h, Res.bind_ok, ht, Res.ofO_some, Res.bind_ok, if_neg (by decide), hb]
theorem d_ite {c a b : E} {x y : T} {r : Bool} (h : eval C c env m = .ok x m1) (ht : truth m1 x = some r) (hy : (if r then eval C a env m1 else eval C b env m1) = .ok y m2) : eval C (.ite c a b) env m = .ok y m2 := by rw [ev_ite, h, Res.bind_ok, ht, Res.ofO_some, Res.bind_ok, hy]
theorem x_ifF {c : E} {a : S} {x : T} (h : eval C c env m = .ok x m1) (ht : truth m1 x = some false) : exec C (.ite c a .skip) env m = .nxt env m1 := by rw [x_iteF (d_test h ht)]; rfl
theorem x_raise {c : Nat} {e : E} {t : T} (h : eval C e env m = .ok t m1) : exec C (.raise c false (.cons e .nil)) env m = .exc c [] env m1 := by
  show (evals C (.cons e .nil) env m).out env _ = _
  rw [ds_cons h ds_nil]; rfl
theorem ev_tup {es : EL} : eval C (.tup es) env m = (evals C es env m).bind fun xs m => if xs.length ≤ LINE then .ok (.tup xs) m else .stuck := rfl
theorem d_tup2 {a b : E} {x y : T} (ha : eval C a env m = .ok x m1) (hb : eval C b env m1 = .ok y m2) : eval C (.tup (.cons a (.cons b .nil))) env m = .ok (.tup [x, y]) m2 := by
  rw [ev_tup, ds_cons ha (ds_cons hb ds_nil)]; rfl
end
section
variable {P : Prog} {k i : Nat} {ts : List T} {f : Fn} {m m1 : Store}
theorem call_g {t : T} {b : Bool} (hf : P.fns[i]? = some f) (hg : f.gc = true) (hl : ts.length = f.np) (hu : T.upTos 0 ts = true) (h : exec (ctxN P k) f.body (start f ts) [] = .ret t b m1) (ht : T.upTo 0 t = true) : callN P (k + 1) i ts m = .ok (t, b) m := by
  rw [callN_g hf hg hl hu, h, fin_ret, alone_ok ht]
theorem call_gx {c : Nat} {env : Env} (hf : P.fns[i]? = some f) (hg : f.gc = true) (hl : ts.length = f.np) (hu : T.upTos 0 ts = true) (h : exec (ctxN P k) f.body (start f ts) [] = .exc c [] env m1) : callN P (k + 1) i ts m = .exc c [] m := by
  rw [callN_g hf hg hl hu, h]; rfl
end
theorem upTos_map {α : Type} {f : α → T} : ∀ {l : List α}, (∀ a ∈ l, T.upTo 0 (f a) = true) → T.upTos 0 (l.map f) = true
  | [], _ => rfl
  | a :: l, h => by
    show (T.upTo 0 (f a) && T.upTos 0 (l.map f)) = true
    rw [h a (List.mem_cons_self ..), upTos_map fun b hb => h b (List.mem_cons_of_mem _ hb)]; rfl
end MP
end

section
set_option Elab.async false
set_option linter.all false
set_option maxRecDepth 100000
set_option maxHeartbeats 0
/-! MQ13: the pool in the store, the name anywhere; loops over known items. -/
namespace MP
structure SP (ns : List Int) (n : Nat) (m : Store) : Prop where
  ml : m.length = n
  pool : ∃ c, m[0]? = some c ∧ Pool ns c
variable {ns : List Int} {n : Nat} {env : Env} {m : Store} {P : Prog} {k i s : Nat}
theorem SP.put (h : SP ns n m) {c : Cell} (hc : Pool ns c) : SP ns n (m.set 0 c) := by
  obtain ⟨c0, h0, _⟩ := h.pool
  exact ⟨by simp [h.ml], c, by rw [List.getElem?_set_self (at_lt h0)], hc⟩
theorem draw_at (hf : P.fns[i]? = some ⟨2, 5, false, drawS⟩) (he : env.get s = some (.obj 0)) (h : SP ns n m) {a : E} {many : Int} (ha : eval (ctxN P (k + 1)) a env m = .ok (.int many) m) (hn : 1 ≤ many) (hx : many < 1073741824) :
    ∃ v c, 0 ≤ v ∧ v < many ∧ Pool ns c ∧ eval (ctxN P (k + 1)) (.callF i (.cons (.var s) (.cons a .nil)) []) env m = .ok (.int v) (m.set 0 c) := by
  obtain ⟨c, hm, hc⟩ := h.pool
  obtain ⟨v, c', h1, h2, h3, h4⟩ := draw_call (k := k) hf hc hm hn hx
  exact ⟨v, c', h1, h2, h3, c_call0 (r := (.int v, false)) (ds_cons (d_var he) (ds_cons ha ds_nil)) h4⟩
theorem pick_at {j : Nat} (hf : P.fns[i]? = some ⟨2, 5, false, drawS⟩) (hj : P.fns[j]? = some ⟨2, 2, false, pickS i⟩) (he : env.get s = some (.obj 0)) (h : SP ns n m) {a : E} {xs : List T} (ha : eval (ctxN P (k + 2)) a env m = .ok (.lst xs) m) (hn : xs ≠ []) (hx : xs.length < 1073741824) :
    ∃ x c, x ∈ xs ∧ Pool ns c ∧ eval (ctxN P (k + 2)) (.callF j (.cons (.var s) (.cons a .nil)) []) env m = .ok x (m.set 0 c) := by
  obtain ⟨c, hm, hc⟩ := h.pool
  obtain ⟨x, c', h1, h3, h4⟩ := pick_call (k := k) hf hj hc hm hn hx
  exact ⟨x, c', h1, h3, c_call0 (r := (x, false)) (ds_cons (d_var he) (ds_cons ha ds_nil)) h4⟩
theorem for_all {w : Walk} {f : T → Env → Store → Out} {I : Env → Store → Prop} (hw : w.at? = none) : ∀ (xs : List T), (∀ t ∈ xs, ∀ env m, I env m → ∃ env' m', f t env m = .nxt env' m' ∧ I env' m') → ∀ {env : Env} {m : Store}, I env m → ∃ env' m', forLoop w f xs env m = .nxt env' m' ∧ I env' m'
  | [], _, env, m, i => by
    refine ⟨env, m, ?_, i⟩
    unfold forLoop
    rw [if_pos (wok_none hw)]
  | t :: r, h, env, m, i => by
    obtain ⟨e1, m1, q, i1⟩ := h t (List.mem_cons_self ..) env m i
    obtain ⟨e2, m2, q2, i2⟩ := for_all hw r (fun x hx => h x (List.mem_cons_of_mem _ hx)) i1
    refine ⟨e2, m2, ?_, i2⟩
    rw [forL_nxt hw q]
    exact q2
theorem mem_upFrom : ∀ {n : Nat} {lo : Int} {t : T}, t ∈ upFrom lo n → ∃ j : Nat, j < n ∧ t = .int (lo + j)
  | 0, lo, t, h => by cases h
  | n + 1, lo, t, h => by
    rcases List.mem_cons.mp h with rfl | h
    · exact ⟨0, by omega, by simp⟩
    · obtain ⟨j, h1, h2⟩ := mem_upFrom h
      exact ⟨j + 1, by omega, by rw [h2]; congr 1; omega⟩
theorem idx_at {m : Store} {xs : List T} {j : Nat} {x : T} (h : xs[j]? = some x) : idxL xs (.int j) = some x := by
  have hj : j < xs.length := at_lt h
  show (ixT xs.length j).bind (fun j => xs[j]?) = _
  unfold ixT
  rw [if_pos (by omega), if_pos (by omega)]
  exact h
end MP
end

section
set_option Elab.async false
set_option linter.all false
set_option maxRecDepth 100000
set_option maxHeartbeats 0
/-! MQ14: the order that a sort goes by. -/
namespace MP
theorem natL_irr (a : List Nat) : ¬ a < a := List.lt_irrefl a
theorem at_irr : ∀ x : At, atLt x x = false
  | .inl a => decide_eq_false (by omega)
  | .inr a => decide_eq_false (List.lt_irrefl a)
theorem at_trans : ∀ {x y z : At}, atLt x y = true → atLt y z = true → atLt x z = true
  | .inl a, .inl b, .inl c, h, g => by
    have h := of_decide_eq_true h
    have g := of_decide_eq_true g
    exact decide_eq_true (by omega)
  | .inl _, .inl _, .inr _, _, _ => rfl
  | .inl _, .inr _, .inr _, _, _ => rfl
  | .inr a, .inr b, .inr c, h, g => decide_eq_true (List.lt_trans (of_decide_eq_true h) (of_decide_eq_true g))
  | .inl _, .inr _, .inl _, _, g => by cases g
  | .inr _, .inl _, _, h, _ => by cases h
  | .inr _, .inr _, .inl _, _, g => by cases g
theorem at_conn : ∀ {x y : At}, atLt x y = false → atLt y x = false → x = y
  | .inl a, .inl b, h, g => by
    have h := of_decide_eq_false h
    have g := of_decide_eq_false g
    rw [show a = b by omega]
  | .inr a, .inr b, h, g => by
    have h := of_decide_eq_false h
    have g := of_decide_eq_false g
    rw [List.le_antisymm (List.not_lt.mp g) (List.not_lt.mp h)]
  | .inl _, .inr _, h, _ => by cases h
  | .inr _, .inl _, _, g => by cases g
theorem at_asym {x y : At} (h : atLt x y = true) : atLt y x = false := by
  cases g : atLt y x with
  | false => rfl
  | true => have := at_trans h g; rw [at_irr] at this; cases this
theorem lex_irr : ∀ a : List At, lexA a a = false
  | [] => rfl
  | x :: r => by show (atLt x x || (!atLt x x && lexA r r)) = false; rw [at_irr, lex_irr r]; rfl
theorem lex_cons {x y : At} {r t : List At} : lexA (x :: r) (y :: t) = true ↔ atLt x y = true ∨ (x = y ∧ lexA r t = true) := by
  show (atLt x y || (!atLt y x && lexA r t)) = true ↔ _
  cases h : atLt x y with
  | true => simp
  | false =>
    cases g : atLt y x with
    | true =>
      simp
      intro e; subst e; rw [at_irr] at g; cases g
    | false => have := at_conn h g; subst this; simp
theorem lex_trans : ∀ {a b c : List At}, lexA a b = true → lexA b c = true → lexA a c = true
  | [], _ :: _, _ :: _, _, _ => rfl
  | x :: r, y :: t, z :: u, h, g => by
    rw [lex_cons] at h g ⊢
    rcases h with h | ⟨rfl, h⟩ <;> rcases g with g | ⟨rfl, g⟩
    · exact .inl (at_trans h g)
    · exact .inl h
    · exact .inl g
    · exact .inr ⟨rfl, lex_trans h g⟩
  | [], [], _, h, _ => by cases h
  | _ :: _, [], _, h, _ => by cases h
  | _, _ :: _, [], _, g => by cases g
theorem lex_conn : ∀ {a b : List At}, lexA a b = false → lexA b a = false → a = b
  | [], [], _, _ => rfl
  | [], _ :: _, h, _ => by cases h
  | _ :: _, [], _, g => by cases g
  | x :: r, y :: t, h, g => by
    have h' : ¬ (atLt x y = true ∨ (x = y ∧ lexA r t = true)) := fun q => by rw [lex_cons.mpr q] at h; cases h
    have g' : ¬ (atLt y x = true ∨ (y = x ∧ lexA t r = true)) := fun q => by rw [lex_cons.mpr q] at g; cases g
    have e : x = y := at_conn (by cases q : atLt x y with | false => rfl | true => exact absurd (.inl q) h') (by cases q : atLt y x with | false => rfl | true => exact absurd (.inl q) g')
    subst e
    rw [lex_conn (a := r) (b := t) (by cases q : lexA r t with | false => rfl | true => exact absurd (.inr ⟨rfl, q⟩) h') (by cases q : lexA t r with | false => rfl | true => exact absurd (.inr ⟨rfl, q⟩) g')]
theorem lex_le {a b c : List At} (h : lexA b a = false) (g : lexA c b = false) : lexA c a = false := by
  cases q : lexA c a with
  | false => rfl
  | true =>
    cases p : lexA b c with
    | true => rw [lex_trans p q] at h; cases h
    | false => rw [lex_conn p g, q] at h; cases h
theorem lex_asym {a b : List At} (h : lexA a b = true) : lexA b a = false := by
  cases g : lexA b a with
  | false => rfl
  | true => have := lex_trans h g; rw [lex_irr] at this; cases this
section
variable {α : Type} {f : α → T}
/-- no later one goes ahead -/
abbrev upBy (f : α → T) (a b : α) : Prop := ltT (f b) (f a) = false
theorem ins_sorted (x : α) : ∀ {l : List α}, l.Pairwise (upBy f) → (insBy f x l).Pairwise (upBy f)
  | [], _ => List.pairwise_cons.mpr ⟨fun _ h => absurd h (by simp), .nil⟩
  | y :: r, h => by
    obtain ⟨h1, h2⟩ := List.pairwise_cons.mp h
    show (if ltT (f y) (f x) then y :: insBy f x r else x :: y :: r).Pairwise _
    by_cases q : ltT (f y) (f x) = true
    · rw [if_pos q]
      refine List.pairwise_cons.mpr ⟨fun z hz => ?_, ins_sorted x h2⟩
      rcases List.mem_cons.mp ((insBy_perm f x r).mem_iff.mp hz) with rfl | hz
      · exact lex_asym q
      · exact h1 z hz
    · rw [if_neg q]
      have q : ltT (f y) (f x) = false := by simpa using q
      refine List.pairwise_cons.mpr ⟨fun z hz => ?_, h⟩
      rcases List.mem_cons.mp hz with rfl | hz
      · exact q
      · exact lex_le q (h1 z hz)
theorem sort_sorted : ∀ l : List α, (sortBy f l).Pairwise (upBy f)
  | [] => .nil
  | x :: r => ins_sorted x (sort_sorted r)
theorem sorted_uniq (inj : ∀ a b : α, keyT (f a) = keyT (f b) → a = b) {l r : List α} (hl : l.Pairwise (upBy f)) (hr : r.Pairwise (upBy f)) (p : l.Perm r) : l = r :=
  List.Perm.eq_of_pairwise (le := upBy f) (fun a b _ _ h1 h2 => inj a b (lex_conn h2 h1)) hl hr p
theorem sort_perm_eq (inj : ∀ a b : α, keyT (f a) = keyT (f b) → a = b) {l r : List α} (p : l.Perm r) : sortBy f l = sortBy f r :=
  sorted_uniq inj (sort_sorted l) (sort_sorted r) (((sortBy_perm f l).trans p).trans (sortBy_perm f r).symm)
theorem sort_id (inj : ∀ a b : α, keyT (f a) = keyT (f b) → a = b) {l : List α} (h : l.Pairwise (upBy f)) : sortBy f l = l :=
  sorted_uniq inj (sort_sorted l) h (sortBy_perm f l)
end
theorem codes_inj {a b : Nm} (h : a.map Char.toNat = b.map Char.toNat) : a = b :=
  List.map_inj_right (fun x y e => Char.toNat_inj.mp e) |>.mp h
theorem str_inj (a b : Nm) (h : keyT (.str a) = keyT (.str b)) : a = b := by
  have : [(Sum.inr (a.map Char.toNat) : At)] = [Sum.inr (b.map Char.toNat)] := h
  simp only [List.cons.injEq, Sum.inr.injEq, and_true] at this
  exact codes_inj this
theorem sortOkS {l : List Nm} (h : l.length < 64) : sortOk (l.map T.str) = true := by
  cases l with
  | nil => rfl
  | cons a r =>
    show ((r.map T.str).all (fun y => sortKd y == some (1, [])) && decide (((a :: r).map T.str).length < 64)) = true
    rw [decide_eq_true (by rw [List.length_map]; exact h), Bool.and_true, List.all_map]
    exact List.all_eq_true.mpr fun x _ => rfl
theorem d_sortS {C : Ctx} {env : Env} {m : Store} {a : E} {l : List Nm} (h : eval C a env m = .ok (.lst (l.map T.str)) m) (hl : l.length < 64) : eval C (.callB .sorted (.cons a .nil)) env m = .ok (.lst ((sortBy T.str l).map T.str)) m := by
  refine d_bi1 h ?_
  show (if sortOk (l.map T.str) then some (T.lst (sortT (l.map T.str))) else none) = _
  rw [sortOkS hl, sortBy_map]; rfl
end MP
end

section
set_option Elab.async false
set_option linter.all false
set_option maxRecDepth 100000
set_option maxHeartbeats 0
/-! MQ15: more steps; comprehensions that draw. -/
namespace MP
theorem zcmp_le (a b : Int) : (compare a b != Ordering.gt) = decide (a ≤ b) := by
  rw [Int.compare_eq_ite_lt]
  by_cases h : a < b
  · rw [if_pos h]; exact (decide_eq_true (by omega)).symm
  · rw [if_neg h]
    by_cases g : b < a
    · rw [if_pos g]; exact (decide_eq_false (by omega)).symm
    · rw [if_neg g]; exact (decide_eq_true (by omega)).symm
theorem zcmp_lt (a b : Int) : (compare a b == Ordering.lt) = decide (a < b) := by
  rw [Int.compare_eq_ite_lt]
  by_cases h : a < b
  · rw [if_pos h]; exact (decide_eq_true h).symm
  · rw [if_neg h]
    by_cases g : b < a
    · rw [if_pos g]; exact (decide_eq_false h).symm
    · rw [if_neg g]; exact (decide_eq_false h).symm
theorem zcmp_gt (a b : Int) : (compare a b == Ordering.gt) = decide (b < a) := by
  rw [Int.compare_eq_ite_lt]
  by_cases h : a < b
  · rw [if_pos h]; exact (decide_eq_false (by omega)).symm
  · rw [if_neg h]
    by_cases g : b < a
    · rw [if_pos g]; exact (decide_eq_true g).symm
    · rw [if_neg g]; exact (decide_eq_false g).symm
theorem zcmp_ge (a b : Int) : (compare a b != Ordering.lt) = decide (b ≤ a) := by
  rw [Int.compare_eq_ite_lt]
  by_cases h : a < b
  · rw [if_pos h]; exact (decide_eq_false (by omega)).symm
  · rw [if_neg h]
    by_cases g : b < a
    · rw [if_pos g]; exact (decide_eq_true (by omega)).symm
    · rw [if_neg g]; exact (decide_eq_true (by omega)).symm
section
variable {C : Ctx} {env : Env} {m m1 m2 m3 : Store} {α : Type}
theorem i_lt {a b : E} {i j : Int} (ha : eval C a env m = .ok (.int i) m1) (hb : eval C b env m1 = .ok (.int j) m2) : eval C (.cmp .lt a b) env m = .ok (.bl (decide (i < j))) m2 :=
  d_cmp ha hb (by show some (compare i j == Ordering.lt) = _; rw [zcmp_lt])
theorem i_gt {a b : E} {i j : Int} (ha : eval C a env m = .ok (.int i) m1) (hb : eval C b env m1 = .ok (.int j) m2) : eval C (.cmp .gt a b) env m = .ok (.bl (decide (j < i))) m2 :=
  d_cmp ha hb (by show some (compare i j == Ordering.gt) = _; rw [zcmp_gt])
theorem i_le {a b : E} {i j : Int} (ha : eval C a env m = .ok (.int i) m1) (hb : eval C b env m1 = .ok (.int j) m2) : eval C (.cmp .le a b) env m = .ok (.bl (decide (i ≤ j))) m2 :=
  d_cmp ha hb (by show some (compare i j != Ordering.gt) = _; rw [zcmp_le])
theorem i_ge {a b : E} {i j : Int} (ha : eval C a env m = .ok (.int i) m1) (hb : eval C b env m1 = .ok (.int j) m2) : eval C (.cmp .ge a b) env m = .ok (.bl (decide (j ≤ i))) m2 :=
  d_cmp ha hb (by show some (compare i j != Ordering.lt) = _; rw [zcmp_ge])
theorem i_eq {a b : E} {i j : Int} (ha : eval C a env m = .ok (.int i) m1) (hb : eval C b env m1 = .ok (.int j) m2) : eval C (.cmp .eq a b) env m = .ok (.bl (decide (i = j))) m2 :=
  d_cmp ha hb (by show some (i == j) = _; rw [Bool.beq_eq_decide_eq])
theorem s_eq {a b : E} {s t : Nm} (ha : eval C a env m = .ok (.str s) m1) (hb : eval C b env m1 = .ok (.str t) m2) : eval C (.cmp .eq a b) env m = .ok (.bl (s == t)) m2 :=
  d_cmp ha hb rfl
theorem s_ne {a b : E} {s t : Nm} (ha : eval C a env m = .ok (.str s) m1) (hb : eval C b env m1 = .ok (.str t) m2) : eval C (.cmp .ne a b) env m = .ok (.bl (!(s == t))) m2 :=
  d_cmp ha hb rfl
theorem len_map {a : E} {l : List α} {f : α → T} (h : eval C a env m = .ok (.lst (l.map f)) m1) : eval C (.callB .len (.cons a .nil)) env m = .ok (.int l.length) m1 := by
  refine d_bi1 h ?_
  show some (T.int ((l.map f).length : Int)) = _
  rw [List.length_map]
theorem r_one {a : E} {j : Int} (h : eval C a env m = .ok (.int j) m1) (h0 : 0 ≤ j) (h1 : j < 1000000) : evalI C (.rng a) env m = .ok ⟨upFrom 0 j.toNat, none, false⟩ m1 := by
  show (eval C a env m).bind _ = _
  rw [h, Res.bind_ok]
  show (if rngOk j then _ else _) = _
  rw [if_pos]
  unfold rngOk
  simp only [Bool.and_eq_true, decide_eq_true_eq]
  omega
theorem b_op {o : Bop} {a b : E} {x y z : T} (ha : eval C a env m = .ok x m1) (hb : eval C b env m1 = .ok y m2) (h : bopT m2 o x y = some z) : eval C (.bin o a b) env m = .ok z m2 := by rw [ev_bin, ha, Res.bind_ok, hb, Res.bind_ok, h]; rfl
theorem l_add {a b : E} {xs ys : List T} (ha : eval C a env m = .ok (.lst xs) m1) (hb : eval C b env m1 = .ok (.lst ys) m2) (h : xs.length + ys.length ≤ LINE) : eval C (.bin .add a b) env m = .ok (.lst (xs ++ ys)) m2 := by
  refine b_op ha hb ?_
  show (if xs.length + ys.length ≤ LINE then some (T.lst (xs ++ ys)) else none) = _
  rw [if_pos h]
theorem ev_cut {a lo hi : E} : eval C (.slice a lo hi) env m = (eval C a env m).bind fun x m => (eval C lo env m).bind fun l m => (Res.ofO (toPart l) m).bind fun i m => (eval C hi env m).bind fun h m => (Res.ofO (toPart h) m).bind fun j m => .ofO (sliceT m x i j) m := rfl
theorem d_cut {a lo hi : E} {x l h y : T} {i j : Option Int} (ha : eval C a env m = .ok x m1) (hlo : eval C lo env m1 = .ok l m2) (hi' : toPart l = some i) (hhi : eval C hi env m2 = .ok h m3) (hj : toPart h = some j) (hs : sliceT m3 x i j = some y) : eval C (.slice a lo hi) env m = .ok y m3 := by
  rw [ev_cut, ha, Res.bind_ok, hlo, Res.bind_ok, hi', Res.ofO_some, Res.bind_ok, hhi, Res.bind_ok, hj, Res.ofO_some, Res.bind_ok, hs]; rfl
theorem cut_take (s : List α) (a : Nat) : cutT s none (some (a : Int)) = s.take a := by
  unfold cutT cutB
  simp only
  rw [if_neg (by omega), Int.toNat_natCast, List.drop_zero, Nat.sub_zero]
  by_cases h : a ≤ s.length
  · rw [Nat.min_eq_left h]
  · rw [Nat.min_eq_right (by omega), List.take_of_length_le (Nat.le_refl _), List.take_of_length_le (by omega)]
theorem l_take {a hi : E} {xs : List T} {j : Nat} (ha : eval C a env m = .ok (.lst xs) m1) (hhi : eval C hi env m1 = .ok (.int j) m2) : eval C (.slice a (.cst .non) hi) env m = .ok (.lst (xs.take j)) m2 :=
  d_cut (i := none) (j := some (j : Int)) ha ev_cst rfl hhi rfl (by show some (T.lst (cutT xs none (some (j : Int)))) = _; rw [cut_take])
theorem one_of {l : List T} {i : Nat} (h : env.get i = some (.lst l)) : eval C (.callB .list (.cons (.var i) .nil)) env m = .ok (.lst l) m := d_bi1 (d_var h) rfl
theorem okM {n : Nat} {f : α → T} (h : ∀ a, T.okN n (f a) = true) : ∀ l : List α, T.okNs n (l.map f) = true
  | [] => by simp [T.okNs]
  | a :: l => by
    show (T.okN n (f a) && T.okNs n (l.map f)) = true
    rw [h a, okM h l]; rfl
theorem eqvs_map {f : α → T} [BEq α] (h : ∀ a b, T.eqv (f a) (f b) = (a == b)) : ∀ l r : List α, T.eqvs (l.map f) (r.map f) = (l == r)
  | [], [] => rfl
  | [], _ :: _ => rfl
  | _ :: _, [] => rfl
  | a :: l, b :: r => by
    show (T.eqv (f a) (f b) && T.eqvs (l.map f) (r.map f)) = _
    rw [h, eqvs_map h l r]; rfl
/-- == of plain lists -/
theorem l_eq {a b : E} {f : α → T} [BEq α] {l r : List α} (hf : ∀ a b, T.eqv (f a) (f b) = (a == b)) (hk : ∀ a, T.okN 59 (f a) = true) (ha : eval C a env m = .ok (.lst (l.map f)) m1) (hb : eval C b env m1 = .ok (.lst (r.map f)) m2) :
    eval C (.cmp .eq a b) env m = .ok (.bl (l == r)) m2 := by
  refine d_cmp ha hb ?_
  show ((if (T.lst (l.map f)).ok then some (T.lst (l.map f)) else none).bind fun a => (if (T.lst (r.map f)).ok then some (T.lst (r.map f)) else none).bind fun b => some (T.eqv a b)) = _
  rw [if_pos (show (T.lst (l.map f)).ok = true from okM hk l), if_pos (show (T.lst (r.map f)).ok = true from okM hk r)]
  show some (T.eqvs (l.map f) (r.map f)) = _
  rw [eqvs_map hf]
theorem l_ne {a b : E} {f : α → T} [BEq α] {l r : List α} (hf : ∀ a b, T.eqv (f a) (f b) = (a == b)) (hk : ∀ a, T.okN 59 (f a) = true) (ha : eval C a env m = .ok (.lst (l.map f)) m1) (hb : eval C b env m1 = .ok (.lst (r.map f)) m2) :
    eval C (.cmp .ne a b) env m = .ok (.bl (!(l == r))) m2 := by
  refine d_cmp ha hb ?_
  show ((if (T.lst (l.map f)).ok then some (T.lst (l.map f)) else none).bind fun a => (if (T.lst (r.map f)).ok then some (T.lst (r.map f)) else none).bind fun b => some (!T.eqv a b)) = _
  rw [if_pos (show (T.lst (l.map f)).ok = true from okM hk l), if_pos (show (T.lst (r.map f)).ok = true from okM hk r)]
  show some (!T.eqvs (l.map f) (r.map f)) = _
  rw [eqvs_map hf]
theorem anyM {f : α → T} [BEq α] [LawfulBEq α] (h : ∀ a b, T.eqv (f a) (f b) = (a == b)) (x : α) : ∀ l : List α, ((l.map f).any fun z => T.eqv z (f x)) = l.contains x
  | [] => rfl
  | a :: l => by
    rw [List.map_cons, List.any_cons, anyM h x l, List.contains_cons, h]
    congr 1
    by_cases e : a = x
    · subst e; rfl
    · rw [beq_eq_false_iff_ne.mpr e, beq_eq_false_iff_ne.mpr (Ne.symm e)]
/-- among plain data -/
theorem memM {f : α → T} [BEq α] [LawfulBEq α] (hf : ∀ a b, T.eqv (f a) (f b) = (a == b)) (hk : ∀ a, T.okN 59 (f a) = true) (x : α) (hx : (f x).ok = true) (hr : res m (f x) = f x) {y : T} {l : List α} (hy : vwL m y = some (l.map f)) (hn : memT m (f x) y = memL m (f x) (l.map f)) : memT m (f x) y = some (l.contains x) := by
  rw [hn]
  show ((if (res m (f x)).ok then some (res m (f x)) else none).bind fun x => if (T.lst (l.map f)).ok then some ((l.map f).any fun z => T.eqv z x) else none) = _
  rw [hr, if_pos hx]
  show (if (T.lst (l.map f)).ok then some ((l.map f).any fun z => T.eqv z (f x)) else none) = _
  rw [if_pos (show (T.lst (l.map f)).ok = true from okM hk l), anyM hf]
theorem eqv_strs (a b : List Nm) : T.eqv (.lst (a.map T.str)) (.lst (b.map T.str)) = (a == b) := eqvs_map (fun _ _ => rfl) a b
theorem s_in {a b : E} {n : Nm} {l : List Nm} (ha : eval C a env m = .ok (.str n) m1) (hb : eval C b env m1 = .ok (.lst (l.map T.str)) m2) : eval C (.cmp .isin a b) env m = .ok (.bl (l.contains n)) m2 :=
  d_cmp ha hb (show memT m2 (.str n) (.lst (l.map T.str)) = _ from memM (m := m2) (f := T.str) (l := l) (y := .lst (l.map T.str)) (fun _ _ => rfl) (fun _ => rfl) n rfl rfl rfl rfl)
theorem s_notin {a b : E} {n : Nm} {l : List Nm} (ha : eval C a env m = .ok (.str n) m1) (hb : eval C b env m1 = .ok (.lst (l.map T.str)) m2) : eval C (.cmp .notin a b) env m = .ok (.bl (!l.contains n)) m2 := by
  refine d_cmp ha hb ?_
  show (memT m2 (.str n) (.lst (l.map T.str))).map (!·) = _
  rw [memM (m := m2) (f := T.str) (l := l) (y := .lst (l.map T.str)) (fun _ _ => rfl) (fun _ => rfl) n rfl rfl rfl rfl]; rfl
theorem idx_map {l : List α} {f : α → T} {j : Nat} {x : α} (h : l[j]? = some x) : idxL (l.map f) (.int j) = some (f x) := idx_at (m := []) (by rw [List.getElem?_map, h]; rfl)
/-- a comprehension whose condition changes the store -/
theorem compL_sub {w : Walk} {F : T → Store → Res (Option T)} {f v : α → T} {I : Store → Prop} (hw : w.at? = none) : ∀ (l : List α) (m : Store), I m → (∀ a ∈ l, ∀ m, I m → ∃ (b : Bool) (m' : Store), I m' ∧ F (f a) m = .ok (if b then some (v a) else none) m') →
    ∃ (l' : List α) (m' : Store), l'.Sublist l ∧ I m' ∧ compL w F (l.map f) m = .ok (l'.map v) m'
  | [], m, hI, _ => ⟨[], m, .slnil, hI, by unfold compL; rw [List.map_nil]; simp only; rw [if_pos (wok_none hw)]; rfl⟩
  | a :: r, m, hI, h => by
    obtain ⟨b, m1, h1, q⟩ := h a (List.mem_cons_self ..) m hI
    obtain ⟨l', m2, s, h2, q2⟩ := compL_sub hw r m1 h1 fun x hx => h x (List.mem_cons_of_mem _ hx)
    rw [List.map_cons]
    cases b with
    | true =>
      refine ⟨a :: l', m2, .cons₂ a s, h2, ?_⟩
      conv => lhs; unfold compL
      rw [if_pos (wok_none hw), q]
      simp only [q2]
      rfl
    | false =>
      refine ⟨l', m2, .cons a s, h2, ?_⟩
      conv => lhs; unfold compL
      rw [if_pos (wok_none hw), q]
      simp only [q2]
      rfl
theorem d_compI {own tg it c e} {l : List α} {f v : α → T} {d : Bool} {E : α → Env} {I : Store → Prop} (hi : evalI C it env m = .ok ⟨l.map f, none, d⟩ m1) (hI : I m1)
    (ht : ∀ a ∈ l, ∀ m, tg.set m (f a) (wipe env own) = some (E a)) (hc : ∀ a ∈ l, ∀ m, I m → ∃ (b : Bool) (m' : Store), I m' ∧ eval C c (E a) m = .ok (.bl b) m') (hv : ∀ a ∈ l, ∀ m, I m → eval C e (E a) m = .ok (v a) m) (hl : l.length ≤ LINE) :
    ∃ (l' : List α) (m' : Store), l'.Sublist l ∧ I m' ∧ eval C (.comp own tg it c e) env m = .ok (.lst (l'.map v)) m' := by
  obtain ⟨l', m', s, h, q⟩ := compL_sub (w := ⟨l.map f, none, d⟩) (F := fun t m => (Res.ofO (tg.set m t (wipe env own)) m).bind fun env m =>
        (eval C c env m).bind fun x m => (Res.ofO (truth m x) m).bind fun r m => if r then (eval C e env m).bind fun y m => .ok (some y) m else .ok none m) (f := f) (v := v) (I := I) rfl l m1 hI fun a ha m hm => by
    obtain ⟨b, m', h', q⟩ := hc a ha m hm
    refine ⟨b, m', h', ?_⟩
    rw [ht a ha, Res.ofO_some, Res.bind_ok, q, Res.bind_ok]
    show (if b = true then _ else _) = _
    cases b with
    | true => rw [if_pos rfl, hv a ha m' h']; rfl
    | false => rfl
  refine ⟨l', m', s, h, ?_⟩
  rw [ev_comp, hi, Res.bind_ok, q, Res.bind_ok]
  unfold shortL
  rw [if_pos]
  rw [List.length_map]
  exact Nat.le_trans s.length_le hl
end
end MP
end

section
set_option Elab.async false
set_option linter.all false
set_option maxRecDepth 100000
set_option maxHeartbeats 0
/-! MQ16: lists in cells; lots. -/
namespace MP
section
variable {C : Ctx} {env : Env} {m m1 m2 m3 : Store} {α : Type}
theorem x_append {i n : Nat} {a : E} {t : T} {xs : List T} (hi : env.get i = some (.obj n)) (hn : (m[n]?).bind Cell.tree = some (.lst xs)) (ha : eval C a env m = .ok t m) (hl : xs.length < LINE) :
    exec C (.expr (.mut .append (.var i) (.cons a .nil))) env m = .nxt env (m.set n (.lst (xs ++ [t]))) := by
  obtain ⟨c, hc, ht⟩ := Option.bind_eq_some_iff.mp hn
  cases c with
  | lst ys =>
    cases ht
    refine x_expr (t := .non) ?_
    show (eval C (.var i) env m).bind (fun x m => if mtOk m .append x then (evals C (.cons a .nil) env m).bind fun xs m => mutR m .append x xs else .stuck) = _
    rw [d_var hi, Res.bind_ok]
    have ok : mtOk m .append (.obj n) = true := by
      show ((match m[n]? with | some (.lst xs) => some xs | _ => none) : Option (List T)).isSome = true
      rw [hc]; rfl
    rw [if_pos ok, ds_cons ha ds_nil, Res.bind_ok]
    unfold mutR
    simp only [hc]
    show (match (if xs.length < LINE then some (T.non, Cell.lst (xs ++ [t])) else none) with | some (y, c) => Res.ok y (m.set n c) | none => .stuck) = _
    rw [if_pos hl]
  | _ => cases ht
theorem vw_cell {n : Nat} {xs : List T} (hn : m[n]? = some (.lst xs)) : vwL m (.obj n) = some xs := by
  show ((match m[n]? with | some (.lst xs) => some xs | _ => none) : Option (List T)) = _
  rw [hn]
theorem len_cell {i n : Nat} {xs : List T} (hi : env.get i = some (.obj n)) (hn : m[n]? = some (.lst xs)) : eval C (.callB .len (.cons (.var i) .nil)) env m = .ok (.int xs.length) m := by
  refine d_bi1 (d_var hi) ?_
  show (match vwL m (.obj n) with | some xs => some (T.int xs.length) | none => _) = _
  rw [vw_cell hn]
theorem idx_cell {i n : Nat} {k : E} {xs : List T} {y z : T} (hi : env.get i = some (.obj n)) (hk : eval C k env m = .ok y m1) (hn : m1[n]? = some (.lst xs)) (h : idxL xs y = some z) : eval C (.idx (.var i) k) env m = .ok z m1 := by
  refine d_idx (d_var hi) hk ?_
  show (match vwL m1 (.obj n) with | some xs => idxL xs y | none => _) = _
  rw [vw_cell hn]
  exact h
theorem idx_last {xs : List T} {t : T} : idxL (xs ++ [t]) (.int (-1)) = some t := by
  show (ixT (xs ++ [t]).length (-1)).bind (fun j => (xs ++ [t])[j]?) = _
  unfold ixT
  rw [if_neg (by decide), if_pos (by rw [List.length_append, List.length_singleton]; omega)]
  show (xs ++ [t])[((-1 : Int) + ((xs ++ [t]).length : Nat)).toNat]? = _
  rw [List.length_append, List.length_singleton, show ((-1 : Int) + ((xs.length + 1 : Nat) : Int)).toNat = xs.length by omega, List.getElem?_append_right (Nat.le_refl _), Nat.sub_self]; rfl
theorem idx_end {xs : List T} {t : T} {i : Int} (hi : i = xs.length) : idxL (xs ++ [t]) (.int i) = some t := by
  subst hi
  exact idx_at (m := []) (by rw [List.getElem?_append_right (Nat.le_refl _), Nat.sub_self]; rfl)
theorem v_list {es : EL} {xs : List T} (h : evals C es env m = .ok xs m1) (hl : xs.length ≤ LINE) : eval C (.list es) env m = .ok (.lst xs) m1 := by
  show (evals C es env m).bind shortL = _
  rw [h, Res.bind_ok]
  unfold shortL
  rw [if_pos hl]
theorem n_list {es : EL} {xs : List T} (h : evals C es env m = .ok xs m1) (hl : xs.length ≤ LINE) : evalNew C (.list es) env m = .ok (.lst xs, true) m1 := by
  show (eval C (.list es) env m).bind _ = _
  rw [v_list h hl]; rfl
/-- a list of texts -/
abbrev LS (l : List Nm) : T := .lst (l.map T.str)
theorem ls_ok (n : Nat) (l : List Nm) : T.okN (n + 1) (LS l) = true := okM (fun _ => by cases n <;> rfl) l
theorem ls_in_cell {a : E} {i n : Nat} {x : List Nm} {l : List (List Nm)} (ha : eval C a env m = .ok (LS x) m1) (hi : env.get i = some (.obj n)) (hn : m1[n]? = some (.lst (l.map LS))) : eval C (.cmp .isin a (.var i)) env m = .ok (.bl (l.contains x)) m1 :=
  d_cmp ha (d_var hi) (show memT m1 (LS x) (.obj n) = _ from memM (m := m1) (f := LS) (l := l) (y := .obj n) eqv_strs (fun _ => ls_ok 58 _) x (ls_ok 59 x) rfl (vw_cell hn) (by
    show (match vwL m1 (.obj n) with | some ys => memL m1 (LS x) ys | none => _) = _
    rw [vw_cell hn]))
theorem ls_in {a b : E} {x : List Nm} {l : List (List Nm)} (ha : eval C a env m = .ok (LS x) m1) (hb : eval C b env m1 = .ok (.lst (l.map LS)) m2) : eval C (.cmp .isin a b) env m = .ok (.bl (l.contains x)) m2 :=
  d_cmp ha hb (show memT m2 (LS x) (.lst (l.map LS)) = _ from memM (m := m2) (f := LS) (l := l) (y := .lst (l.map LS)) eqv_strs (fun _ => ls_ok 58 _) x (ls_ok 59 x) rfl rfl rfl)
theorem ls_eq {a b : E} {x y : List Nm} (ha : eval C a env m = .ok (LS x) m1) (hb : eval C b env m1 = .ok (LS y) m2) : eval C (.cmp .eq a b) env m = .ok (.bl (x == y)) m2 := l_eq (fun _ _ => rfl) (fun _ => rfl) ha hb
theorem ls_ne {a b : E} {x y : List Nm} (ha : eval C a env m = .ok (LS x) m1) (hb : eval C b env m1 = .ok (LS y) m2) : eval C (.cmp .ne a b) env m = .ok (.bl (!(x == y))) m2 := l_ne (fun _ _ => rfl) (fun _ => rfl) ha hb
end
section
variable {α : Type}
/-- all lots, as the laws build them -/
def lotsA : List (List α) → List α → List (List α)
  | acc, [] => acc
  | acc, a :: l => lotsA (acc ++ acc.map (· ++ [a])) l
theorem lotsA_len : ∀ (l : List α) (acc : List (List α)), (lotsA acc l).length = acc.length * 2 ^ l.length
  | [], acc => by show acc.length = acc.length * 2 ^ 0; simp
  | a :: l, acc => by
    show (lotsA (acc ++ acc.map (· ++ [a])) l).length = _
    rw [lotsA_len l, List.length_append, List.length_map, List.length_cons, Nat.pow_succ]
    generalize 2 ^ l.length = z
    rw [Nat.add_mul, Nat.mul_comm z 2, ← Nat.mul_assoc, Nat.mul_two, Nat.add_mul]
theorem mem_lotsA {x : List α} : ∀ {l : List α} {acc : List (List α)}, x ∈ lotsA acc l ↔ ∃ y ∈ acc, ∃ z, z.Sublist l ∧ x = y ++ z
  | [], acc => by
    show x ∈ acc ↔ _
    constructor
    · intro h; exact ⟨x, h, [], .slnil, by simp⟩
    · rintro ⟨y, hy, z, hz, rfl⟩
      rw [List.sublist_nil.mp hz, List.append_nil]; exact hy
  | a :: l, acc => by
    show x ∈ lotsA (acc ++ acc.map (· ++ [a])) l ↔ _
    rw [mem_lotsA (l := l)]
    constructor
    · rintro ⟨y, hy, z, hz, rfl⟩
      rcases List.mem_append.mp hy with h | h
      · exact ⟨y, h, z, .cons a hz, rfl⟩
      · obtain ⟨w, hw, rfl⟩ := List.mem_map.mp h
        exact ⟨w, hw, a :: z, .cons₂ a hz, by simp⟩
    · rintro ⟨y, hy, z, hz, rfl⟩
      cases hz with
      | cons _ h => exact ⟨y, List.mem_append_left _ hy, z, h, rfl⟩
      | @cons_cons z' _ _ h => exact ⟨y ++ [a], List.mem_append_right _ (List.mem_map.mpr ⟨y, hy, rfl⟩), z', h, by simp⟩
abbrev lots (l : List α) : List (List α) := lotsA [[]] l
theorem mem_lots {x l : List α} : x ∈ lots l ↔ x.Sublist l := by
  unfold lots
  rw [mem_lotsA]
  constructor
  · rintro ⟨y, hy, z, hz, rfl⟩
    rw [List.mem_singleton.mp hy, List.nil_append]; exact hz
  · intro h; exact ⟨[], List.mem_singleton.mpr rfl, x, h, rfl⟩
theorem lots_len (l : List α) : (lots l).length = 2 ^ l.length := by unfold lots; rw [lotsA_len]; simp
theorem nodup_le [BEq α] [LawfulBEq α] : ∀ {l r : List α}, l.Nodup → (∀ x ∈ l, x ∈ r) → l.length ≤ r.length
  | [], _, _, _ => Nat.zero_le _
  | a :: l, r, nd, h => by
    obtain ⟨h1, h2⟩ := List.nodup_cons.mp nd
    have := nodup_le (r := r.erase a) h2 fun x hx => (List.mem_erase_of_ne (a := x) (b := a) (by intro e; subst e; exact h1 hx)).mpr (h x (List.mem_cons_of_mem _ hx))
    rw [List.length_erase_of_mem (h a (List.mem_cons_self ..))] at this
    have : 0 < r.length := List.length_pos_of_mem (h a (List.mem_cons_self ..))
    simp only [List.length_cons]
    omega
/-- unlike sublists are not many -/
theorem few_sub [BEq α] [LawfulBEq α] {f : List (List α)} {l : List α} (nd : f.Nodup) (h : ∀ x ∈ f, x.Sublist l) : f.length ≤ 2 ^ l.length := by
  rw [← lots_len]
  exact nodup_le nd fun x hx => mem_lots.mpr (h x hx)
end
end MP
end

section
set_option Elab.async false
set_option linter.all false
set_option maxRecDepth 100000
set_option maxHeartbeats 0
/-! MQ17: counts, sorted numbers, the least. -/
namespace MP
section
variable {α : Type}
theorem fl_le {f g : α → Bool} : ∀ {l : List α}, (∀ x ∈ l, f x = true → g x = true) → (l.filter f).length ≤ (l.filter g).length
  | [], _ => Nat.le_refl _
  | a :: l, h => by
    have ih := fl_le (l := l) fun x hx => h x (List.mem_cons_of_mem _ hx)
    have ha := h a (List.mem_cons_self ..)
    cases hf : f a with
    | true => rw [List.filter_cons_of_pos hf, List.filter_cons_of_pos (ha hf)]; simp; exact ih
    | false =>
      rw [List.filter_cons_of_neg (by rw [hf]; decide)]
      cases hg : g a with
      | true => rw [List.filter_cons_of_pos hg]; simp; omega
      | false => rw [List.filter_cons_of_neg (by rw [hg]; decide)]; exact ih
theorem fl_add {f g : α → Bool} : ∀ {l : List α}, (∀ x ∈ l, g x = !f x) → (l.filter f).length + (l.filter g).length = l.length
  | [], _ => rfl
  | a :: l, h => by
    have ih := fl_add (l := l) fun x hx => h x (List.mem_cons_of_mem _ hx)
    have ha := h a (List.mem_cons_self ..)
    cases hf : f a with
    | true => rw [List.filter_cons_of_pos hf, List.filter_cons_of_neg (by rw [ha, hf]; decide)]; simp; omega
    | false => rw [List.filter_cons_of_neg (by rw [hf]; decide), List.filter_cons_of_pos (by rw [ha, hf]; decide)]; simp; omega
theorem fl_perm {f : α → Bool} {l l' : List α} (p : l.Perm l') : (l.filter f).length = (l'.filter f).length := (p.filter f).length_eq
theorem perm_of_mem [BEq α] [LawfulBEq α] : ∀ {l r : List α}, l.Nodup → r.Nodup → (∀ x, x ∈ l ↔ x ∈ r) → l.Perm r
  | [], r, _, _, h => by
    have : r = [] := List.eq_nil_iff_forall_not_mem.mpr fun x hx => absurd ((h x).mpr hx) (by simp)
    rw [this]
  | a :: l, r, nl, nr, h => by
    obtain ⟨h1, h2⟩ := List.nodup_cons.mp nl
    have ha : a ∈ r := (h a).mp (List.mem_cons_self ..)
    refine (List.Perm.cons a (perm_of_mem (r := r.erase a) h2 (nr.erase a) fun x => ?_)).trans (List.perm_cons_erase ha).symm
    rw [nr.mem_erase_iff]
    constructor
    · intro hx
      exact ⟨fun e => h1 (e ▸ hx), (h x).mp (List.mem_cons_of_mem _ hx)⟩
    · rintro ⟨hn, hx⟩
      rcases List.mem_cons.mp ((h x).mpr hx) with e | e
      · exact absurd e hn
      · exact e
end
/-- those less than p -/
def less (p : Int) (l : List Int) : Nat := (l.filter fun x => decide (x < p)).length
theorem less_perm {p : Int} {l r : List Int} (h : l.Perm r) : less p l = less p r := fl_perm h
theorem less_at {p : Int} : ∀ {s : List Int} {k : Nat} {y : Int}, s.Pairwise (· ≤ ·) → s[k]? = some y → (less p s ≤ k ↔ p ≤ y)
  | [], k, y, _, h => by simp at h
  | a :: r, k, y, hs, h => by
    obtain ⟨h1, h2⟩ := List.pairwise_cons.mp hs
    unfold less
    by_cases ha : a < p
    · rw [List.filter_cons_of_pos (by simpa using ha)]
      cases k with
      | zero =>
        simp at h; subst h
        simp; omega
      | succ k =>
        have ih := less_at (p := p) (k := k) h2 (by simpa using h)
        unfold less at ih
        simp only [List.length_cons, Nat.add_le_add_iff_right]
        exact ih
    · rw [List.filter_cons_of_neg (by simpa using ha)]
      have e : r.filter (fun x => decide (x < p)) = [] := List.filter_eq_nil_iff.mpr fun x hx => by
        have := h1 x hx
        simp; omega
      rw [e]
      have : p ≤ y := by
        cases k with
        | zero => simp at h; omega
        | succ k =>
          have := h1 y (List.mem_of_getElem? (by simpa using h))
          omega
      simp [this]
theorem min_is : ∀ (l : List Int) (a : Int), minI a l ∈ a :: l ∧ ∀ x ∈ a :: l, minI a l ≤ x
  | [], a => ⟨List.mem_singleton.mpr rfl, fun x hx => by rw [List.mem_singleton.mp hx]; exact Int.le_refl _⟩
  | b :: l, a => by
    obtain ⟨h1, h2⟩ := min_is l (if b < a then b else a)
    show minI (if b < a then b else a) l ∈ _ ∧ ∀ x ∈ _, minI (if b < a then b else a) l ≤ x
    refine ⟨?_, fun x hx => ?_⟩
    · rcases List.mem_cons.mp h1 with e | e
      · rw [e]
        split
        · exact List.mem_cons_of_mem _ (List.mem_cons_self ..)
        · exact List.mem_cons_self ..
      · exact List.mem_cons_of_mem _ (List.mem_cons_of_mem _ e)
    · have h0 := h2 _ (List.mem_cons_self ..)
      rcases List.mem_cons.mp hx with rfl | hx
      · exact Int.le_trans h0 (by split <;> omega)
      · rcases List.mem_cons.mp hx with rfl | hx
        · exact Int.le_trans h0 (by split <;> omega)
        · exact h2 x (List.mem_cons_of_mem _ hx)
theorem ints_map : ∀ l : List Int, intsOf (l.map T.int) = some l
  | [] => rfl
  | a :: l => by show (intsOf (l.map T.int)).map (a :: ·) = _; rw [ints_map l]; rfl
/-- min(a list), by its least -/
theorem d_min {C : Ctx} {env : Env} {m m1 : Store} {e : E} {l : List Int} {z : Int} (h : eval C e env m = .ok (.lst (l.map T.int)) m1) (hz : z ∈ l) (hl : ∀ x ∈ l, z ≤ x) : eval C (.callB .min (.cons e .nil)) env m = .ok (.int z) m1 := by
  refine d_bi1 h ?_
  show (match intsOf (l.map T.int) with | some (a :: r) => some (T.int (minI a r)) | _ => none) = _
  rw [ints_map]
  cases l with
  | nil => cases hz
  | cons a r =>
    obtain ⟨h1, h2⟩ := min_is r a
    have : minI a r = z := Int.le_antisymm (h2 z hz) (hl _ h1)
    simp only [this]
section
variable {ns : List Int} {n : Nat} {env : Env} {m m1 : Store} {P : Prog} {k i s : Nat}
theorem pick_to {j : Nat} (hf : P.fns[i]? = some ⟨2, 5, false, drawS⟩) (hj : P.fns[j]? = some ⟨2, 2, false, pickS i⟩) (he : env.get s = some (.obj 0)) {a : E} {xs : List T} (ha : eval (ctxN P (k + 2)) a env m = .ok (.lst xs) m1) (h : SP ns n m1) (hn : xs ≠ []) (hx : xs.length < 1073741824) :
    ∃ x m', x ∈ xs ∧ SP ns n m' ∧ eval (ctxN P (k + 2)) (.callF j (.cons (.var s) (.cons a .nil)) []) env m = .ok x m' := by
  obtain ⟨c, hm, hc⟩ := h.pool
  obtain ⟨x, c', h1, h3, h4⟩ := pick_call (k := k) hf hj hc hm hn hx
  exact ⟨x, _, h1, h.put h3, c_call0 (r := (x, false)) (ds_cons (d_var he) (ds_cons ha ds_nil)) h4⟩
theorem draw_to (hf : P.fns[i]? = some ⟨2, 5, false, drawS⟩) (he : env.get s = some (.obj 0)) {a : E} {many : Int} (ha : eval (ctxN P (k + 1)) a env m = .ok (.int many) m1) (h : SP ns n m1) (hn : 1 ≤ many) (hx : many < 1073741824) :
    ∃ v m', 0 ≤ v ∧ v < many ∧ SP ns n m' ∧ eval (ctxN P (k + 1)) (.callF i (.cons (.var s) (.cons a .nil)) []) env m = .ok (.int v) m' := by
  obtain ⟨c, hm, hc⟩ := h.pool
  obtain ⟨v, c', h1, h2, h3, h4⟩ := draw_call (k := k) hf hc hm hn hx
  exact ⟨v, _, h1, h2, h.put h3, c_call0 (r := (.int v, false)) (ds_cons (d_var he) (ds_cons ha ds_nil)) h4⟩
end
end MP
end

section
set_option Elab.async false
set_option linter.all false
set_option maxRecDepth 100000
set_option maxHeartbeats 0
namespace K69
open PySem PySem.Spec PyProof.Rows L2 MP
open MP (S E T EL It)
abbrev pw : Program := PySem.Challenge.pw_manychoose_k69_pledges_won_over
def top (i : Nat) : Stmt := pw.main.body.getD i (.Pass ⟨0, 0, 0, 0⟩)
def d0 : Df := ⟨"is_name", defArgs (top 12), defBody (top 12), defScope (top 12), ["word", "sign"], ["word"]⟩
/-- is_name -/
def b0 : MP.S := .seq (.ite (.or (.not (.isinst (.var 0) [.str])) (.not (.chain .le .le (.cst (.int 1)) (.callB .len (.cons (.var 0) .nil)) (.glo 0 (.int 12))))) (.ret (.cst (.bl false))) (.skip)) (.seq (.for (.one 1) (.of (.var 0)) (.ite (.cmp .notin (.var 1) (.glo 0 (.str ['a', 'b', 'c', 'd', 'e', 'f', 'g', 'h', 'i', 'j', 'k', 'l', 'm', 'n', 'o', 'p', 'q', 'r', 's', 't', 'u', 'v', 'w', 'x', 'y', 'z']))) (.ret (.cst (.bl false))) (.skip))) (.ret (.cst (.bl true))))
def d1 : Df := ⟨"checked_name", defArgs (top 13), defBody (top 13), defScope (top 13), ["word"], ["word"]⟩
/-- checked_name -/
def b1 : MP.S := .seq (.ite (.not (.callF 0 (.cons (.var 0) .nil) [])) (.raise 1 false (.cons (.cst (.str ['n', 'o', ' ', 'n', 'a', 'm', 'e'])) .nil)) (.skip)) (.ret (.var 0))
def d2 : Df := ⟨"is_number", defArgs (top 14), defBody (top 14), defScope (top 14), ["value", "least", "most"], ["value", "least", "most"]⟩
/-- is_number -/
def b2 : MP.S := .seq (.ite (.or (.isinst (.var 0) [.bool]) (.not (.isinst (.var 0) [.int]))) (.ret (.cst (.bl false))) (.skip)) (.ret (.chain .le .le (.var 1) (.var 0) (.var 2)))
def d3 : Df := ⟨"checked_number", defArgs (top 15), defBody (top 15), defScope (top 15), ["value", "least", "most"], ["value", "least", "most"]⟩
/-- checked_number -/
def b3 : MP.S := .seq (.ite (.not (.callF 2 (.cons (.var 0) (.cons (.var 1) (.cons (.var 2) .nil))) [])) (.raise 2 false (.cons (.bin .add (.bin .add (.bin .add (.cst (.str ['n', 'o', ' ', 'n', 'u', 'm', 'b', 'e', 'r', ' ', 'f', 'r', 'o', 'm', ' '])) (.callB .str (.cons (.var 1) .nil))) (.cst (.str [' ', 't', 'o', ' ']))) (.callB .str (.cons (.var 2) .nil))) .nil)) (.skip)) (.ret (.var 0))
def d4 : Df := ⟨"checked_pledges", defArgs (top 18), defBody (top 18), defScope (top 18), ["pledges", "found", "name", "number", "row"], ["pledges"]⟩
/-- checked_pledges -/
def b4 : MP.S := .seq (.ite (.cmp .gt (.callB .len (.cons (.var 0) .nil)) (.glo 0 (.int 40))) (.raise 5 false (.cons (.cst (.str ['n', 'a', 'm', 'e', 's'])) .nil)) (.skip)) (.seq (.setBox 1 (.list (.nil))) (.seq (.for (.many [2, 3]) (.of (.var 0)) (.seq (.expr (.callF 1 (.cons (.var 2) .nil) [])) (.seq (.ite (.comp [4] (.one 4) (.of (.var 1)) (.cmp .eq (.idx (.var 4) (.cst (.int 0))) (.var 2)) (.var 4)) (.raise 3 false (.cons (.var 2) .nil)) (.skip)) (.expr (.mut .append (.var 1) (.cons (.tup (.cons (.var 2) (.cons (.callF 3 (.cons (.var 3) (.cons (.cst (.int 0)) (.cons (.glo 0 (.int 40)) .nil))) []) .nil))) .nil)))))) (.ret (.callB .sorted (.cons (.var 1) .nil)))))
def d5 : Df := ⟨"checked_joined", defArgs (top 19), defBody (top 19), defScope (top 19), ["pledges", "names", "known", "row", "at"], ["pledges", "names"]⟩
/-- checked_joined -/
def b5 : MP.S := .seq (.set 2 (.comp [3] (.one 3) (.of (.callF 4 (.cons (.var 0) .nil) [])) (.cst (.bl true)) (.idx (.var 3) (.cst (.int 0))))) (.seq (.for (.one 4) (.rng (.callB .len (.cons (.var 1) .nil))) (.seq (.ite (.cmp .notin (.idx (.var 1) (.var 4)) (.var 2)) (.raise 4 false (.cons (.cst (.str ['n', 'a', 'm', 'e'])) .nil)) (.skip)) (.ite (.cmp .isin (.idx (.var 1) (.var 4)) (.slice (.var 1) (.cst .non) (.var 4))) (.raise 3 false (.cons (.idx (.var 1) (.var 4)) .nil)) (.skip)))) (.ret (.callB .sorted (.cons (.var 1) .nil))))
def d6 : Df := ⟨"would", defArgs (top 20), defBody (top 20), defScope (top 20), ["pledges", "names", "told", "name", "number"], ["pledges", "names"]⟩
/-- would -/
def b6 : MP.S := .seq (.set 2 (.callF 5 (.cons (.var 0) (.cons (.var 1) .nil)) [])) (.ret (.comp [3, 4] (.many [3, 4]) (.of (.callF 4 (.cons (.var 0) .nil) [])) (.cmp .ge (.bin .sub (.callB .len (.cons (.var 2) .nil)) (.ite (.cmp .isin (.var 3) (.var 2)) (.cst (.int 1)) (.cst (.int 0)))) (.var 4)) (.var 3)))
def d7 : Df := ⟨"steps", defArgs (top 21), defBody (top 21), defScope (top 21), ["pledges", "names", "found", "told"], ["pledges", "names"]⟩
/-- steps -/
def b7 : MP.S := .seq (.setBox 2 (.list (.cons (.callF 5 (.cons (.var 0) (.cons (.var 1) .nil)) []) .nil))) (.seq (.set 3 (.callF 6 (.cons (.var 0) (.cons (.idx (.var 2) (.cst (.int 0))) .nil)) [])) (.seq (.while (.cmp .ne (.var 3) (.idx (.var 2) (.neg (.cst (.int 1))))) (.seq (.ite (.or (.cmp .gt (.callB .len (.cons (.var 2) .nil)) (.cst (.int 80))) (.cmp .isin (.var 3) (.var 2))) (.raise 6 false (.cons (.cst (.str ['i', 't', ' ', 't', 'u', 'r', 'n', 's'])) .nil)) (.skip)) (.seq (.expr (.mut .append (.var 2) (.cons (.var 3) .nil))) (.set 3 (.callF 6 (.cons (.var 0) (.cons (.var 3) .nil)) []))))) (.retMove 2)))
def d8 : Df := ⟨"starters", defArgs (top 22), defBody (top 22), defScope (top 22), ["pledges", "rows", "order", "number", "name", "many"], ["pledges"]⟩
/-- starters -/
def b8 : MP.S := .seq (.set 1 (.callF 4 (.cons (.var 0) .nil) [])) (.seq (.set 2 (.comp [3, 4] (.many [3, 4]) (.of (.callB .sorted (.cons (.comp [4, 3] (.many [4, 3]) (.of (.var 1)) (.cst (.bl true)) (.tup (.cons (.neg (.var 3)) (.cons (.var 4) .nil)))) .nil))) (.cst (.bl true)) (.var 4))) (.seq (.set 5 (.cst (.int 0))) (.seq (.while (.not (.callF 9 (.cons (.var 1) (.cons (.slice (.var 2) (.cst .non) (.var 5)) .nil)) [])) (.set 5 (.bin .add (.var 5) (.cst (.int 1))))) (.ret (.callB .sorted (.cons (.slice (.var 2) (.cst .non) (.var 5)) .nil))))))
def d9 : Df := ⟨"_all_join", defArgs (top 23), defBody (top 23), defScope (top 23), ["rows", "won", "numbers", "name", "number", "at"], ["rows", "won"]⟩
/-- _all_join -/
def b9 : MP.S := .seq (.set 2 (.callB .sorted (.cons (.comp [3, 4] (.many [3, 4]) (.of (.var 0)) (.cmp .notin (.var 3) (.var 1)) (.var 4)) .nil))) (.ret (.not (.comp [5] (.one 5) (.rng (.callB .len (.cons (.var 2) .nil))) (.cmp .lt (.bin .add (.callB .len (.cons (.var 1) .nil)) (.var 5)) (.idx (.var 2) (.var 5))) (.var 5))))
def d10 : Df := ⟨"judge_starters", defArgs (top 24), defBody (top 24), defScope (top 24), ["pledges", "names", "rows", "told"], ["pledges", "names"]⟩
/-- judge_starters -/
def b10 : MP.S := .seq (.set 2 (.callF 4 (.cons (.var 0) .nil) [])) (.seq (.set 3 (.callF 5 (.cons (.var 2) (.cons (.var 1) .nil)) [])) (.ret (.and (.callF 9 (.cons (.var 2) (.cons (.var 3) .nil)) []) (.cmp .eq (.callB .len (.cons (.var 3) .nil)) (.callB .len (.cons (.callF 8 (.cons (.var 2) .nil) []) .nil))))))
def d11 : Df := ⟨"changed", defArgs (top 25), defBody (top 25), defScope (top 25), ["pledges", "name", "number", "rows", "row", "one", "old"], ["pledges", "name", "number"]⟩
/-- changed -/
def b11 : MP.S := .seq (.set 3 (.callF 4 (.cons (.var 0) .nil) [])) (.seq (.ite (.cmp .notin (.var 1) (.comp [4] (.one 4) (.of (.var 3)) (.cst (.bl true)) (.idx (.var 4) (.cst (.int 0))))) (.raise 4 false (.cons (.cst (.str ['n', 'a', 'm', 'e'])) .nil)) (.skip)) (.seq (.expr (.callF 3 (.cons (.var 2) (.cons (.cst (.int 0)) (.cons (.glo 0 (.int 40)) .nil))) [])) (.ret (.comp [5, 6] (.many [5, 6]) (.of (.var 3)) (.cst (.bl true)) (.tup (.cons (.var 5) (.cons (.ite (.cmp .eq (.var 5) (.var 1)) (.var 2) (.var 6)) .nil)))))))
def d12 : Df := ⟨"_law_same", defArgs (top 27), defBody (top 27), defScope (top 27), ["actual", "due", "k"], ["actual", "due"]⟩
/-- _law_same -/
def b12 : MP.S := .seq (.ite (.cmp .is (.var 1) (.cst (.non))) (.ret (.cmp .is (.var 0) (.cst (.non)))) (.skip)) (.seq (.ite (.isinst (.var 1) [.tuple, .list]) (.seq (.ite (.or (.cmp .ne (.isinst (.var 1) [.tuple]) (.isinst (.var 0) [.tuple])) (.cmp .ne (.isinst (.var 1) [.list]) (.isinst (.var 0) [.list]))) (.ret (.cst (.bl false))) (.skip)) (.seq (.ite (.cmp .ne (.callB .len (.cons (.var 0) .nil)) (.callB .len (.cons (.var 1) .nil))) (.ret (.cst (.bl false))) (.skip)) (.seq (.for (.one 2) (.rng (.callB .len (.cons (.var 1) .nil))) (.ite (.not (.callF 12 (.cons (.idx (.var 0) (.var 2)) (.cons (.idx (.var 1) (.var 2)) .nil)) [])) (.ret (.cst (.bl false))) (.skip))) (.ret (.cst (.bl true)))))) (.skip)) (.seq (.ite (.isinst (.var 1) [.bool]) (.ret (.and (.isinst (.var 0) [.bool]) (.cmp .eq (.var 0) (.var 1)))) (.skip)) (.seq (.ite (.isinst (.var 1) [.int]) (.ret (.and (.isinst (.var 0) [.int]) (.and (.not (.isinst (.var 0) [.bool])) (.cmp .eq (.var 0) (.var 1))))) (.skip)) (.ret (.and (.isinst (.var 0) [.str]) (.cmp .eq (.var 0) (.var 1)))))))
def d13 : Df := ⟨"_law_pool", defArgs (top 28), defBody (top 28), defScope (top 28), ["script"], ["script"]⟩
/-- _law_pool -/
def b13 : MP.S := .retNew (.list (.cons (.callB .list (.cons (.var 0) .nil)) (.cons (.cst (.int 0)) (.cons (.cst (.int 0)) (.cons (.cst (.int 0)) (.cons (.cst (.int 0)) .nil))))))
def d14 : Df := ⟨"_law_draw", defArgs (top 29), defBody (top 29), defScope (top 29), ["pool", "many", "found", "cell", "mixed"], ["pool", "many"]⟩
/-- _law_draw -/
def b14 : MP.S := .seq (.ite (.cmp .gt (.idx (.var 0) (.cst (.int 2))) (.cst (.int 0))) (.seq (.set 2 (.bin .mod (.callB .int (.cons (.idx (.var 0) (.cst (.int 2))) .nil)) (.var 1))) (.seq (.setIdx (.var 0) (.cst (.int 2)) (.bin .fdiv (.idx (.var 0) (.cst (.int 2))) (.var 1))) (.ret (.var 2)))) (.skip)) (.seq (.ite (.and (.cmp .eq (.bin .mod (.callB .int (.cons (.idx (.var 0) (.cst (.int 4))) .nil)) (.cst (.int 8))) (.cst (.int 0))) (.cmp .lt (.idx (.var 0) (.cst (.int 1))) (.callB .len (.cons (.idx (.var 0) (.cst (.int 0))) .nil)))) (.seq (.set 3 (.callB .abs (.cons (.idx (.idx (.var 0) (.cst (.int 0))) (.idx (.var 0) (.cst (.int 1)))) .nil))) (.seq (.setIdx (.var 0) (.cst (.int 1)) (.bin .add (.idx (.var 0) (.cst (.int 1))) (.cst (.int 1)))) (.seq (.ite (.cmp .ge (.var 3) (.bin .pow (.cst (.int 10)) (.cst (.int 18)))) (.seq (.setIdx (.var 0) (.cst (.int 2)) (.bin .fdiv (.var 3) (.var 1))) (.ret (.bin .mod (.callB .int (.cons (.var 3) .nil)) (.var 1)))) (.skip)) (.setIdx (.var 0) (.cst (.int 3)) (.var 3))))) (.skip)) (.seq (.setIdx (.var 0) (.cst (.int 4)) (.bin .add (.idx (.var 0) (.cst (.int 4))) (.cst (.int 1)))) (.seq (.set 4 (.bin .mod (.callB .int (.cons (.bin .add (.bin .add (.bin .mul (.idx (.var 0) (.cst (.int 3))) (.cst (.int 48271))) (.bin .mul (.idx (.var 0) (.cst (.int 4))) (.cst (.int 69621)))) (.cst (.int 7919))) .nil)) (.cst (.int 2147483647)))) (.seq (.set 4 (.bin .mod (.callB .int (.cons (.bin .add (.bin .mul (.var 4) (.var 4)) (.bin .mul (.idx (.var 0) (.cst (.int 4))) (.cst (.int 40692)))) .nil)) (.cst (.int 2147483399)))) (.ret (.bin .mod (.callB .int (.cons (.var 4) .nil)) (.var 1)))))))
def d15 : Df := ⟨"_law_pick", defArgs (top 30), defBody (top 30), defScope (top 30), ["pool", "rows"], ["pool", "rows"]⟩
/-- _law_pick -/
def b15 : MP.S := .ret (.idx (.var 1) (.callF 14 (.cons (.var 0) (.cons (.callB .len (.cons (.var 1) .nil)) .nil)) []))
def d16 : Df := ⟨"_law_names", defArgs (top 31), defBody (top 31), defScope (top 31), ["pool", "many", "letters", "first", "k", "common", "at", "found", "code"], ["pool", "many"]⟩
/-- _law_names -/
def b16 : MP.S := .seq (.set 2 (.cst (.str ['a', 'b', 'c', 'd', 'e', 'f', 'g', 'h', 'i', 'j', 'k', 'l', 'm', 'n', 'o', 'p', 'q', 'r', 's', 't', 'u', 'v', 'w', 'x', 'y', 'z']))) (.seq (.set 3 (.callF 14 (.cons (.var 0) (.cons (.cst (.int 26)) .nil)) [])) (.seq (.ite (.and (.cmp .le (.var 1) (.cst (.int 26))) (.cmp .eq (.callF 14 (.cons (.var 0) (.cons (.cst (.int 3)) .nil)) []) (.cst (.int 0)))) (.ret (.comp [4] (.one 4) (.rng (.var 1)) (.cst (.bl true)) (.idx (.var 2) (.bin .mod (.callB .int (.cons (.bin .add (.var 3) (.var 4)) .nil)) (.cst (.int 26)))))) (.skip)) (.seq (.set 5 (.meth .join (.cst (.str [])) (.cons (.comp [4] (.one 4) (.rng (.callF 14 (.cons (.var 0) (.cons (.cst (.int 11)) .nil)) [])) (.cst (.bl true)) (.idx (.var 2) (.callF 14 (.cons (.var 0) (.cons (.cst (.int 26)) .nil)) []))) .nil))) (.seq (.set 6 (.callF 14 (.cons (.var 0) (.cons (.bin .add (.callB .len (.cons (.var 5) .nil)) (.cst (.int 1))) .nil)) [])) (.seq (.setBox 7 (.list (.nil))) (.seq (.for (.one 4) (.rng (.var 1)) (.seq (.set 8 (.bin .add (.idx (.var 2) (.bin .mod (.callB .int (.cons (.bin .add (.var 3) (.var 4)) .nil)) (.cst (.int 26)))) (.idx (.var 2) (.bin .mod (.callB .int (.cons (.bin .add (.bin .add (.var 3) (.bin .mul (.bin .fdiv (.var 4) (.cst (.int 26))) (.cst (.int 7)))) (.var 4)) .nil)) (.cst (.int 26)))))) (.expr (.mut .append (.var 7) (.cons (.bin .add (.bin .add (.slice (.var 5) (.cst .non) (.var 6)) (.var 8)) (.slice (.var 5) (.var 6) (.cst .non))) .nil))))) (.retMove 7)))))))
def d17 : Df := ⟨"_law_pledges", defArgs (top 33), defBody (top 33), defScope (top 33), ["pool", "most", "found", "names", "name"], ["pool", "most"]⟩
/-- _law_pledges -/
def b17 : MP.S := .seq (.setBox 2 (.list (.nil))) (.seq (.set 3 (.slice (.callF 16 (.cons (.var 0) (.cons (.var 1) .nil)) []) (.cst .non) (.callF 14 (.cons (.var 0) (.cons (.bin .add (.var 1) (.cst (.int 1))) .nil)) []))) (.seq (.for (.one 4) (.of (.var 3)) (.expr (.mut .insert (.var 2) (.cons (.callF 14 (.cons (.var 0) (.cons (.bin .add (.callB .len (.cons (.var 2) .nil)) (.cst (.int 1))) .nil)) []) (.cons (.tup (.cons (.var 4) (.cons (.callF 14 (.cons (.var 0) (.cons (.bin .add (.callB .len (.cons (.var 3) .nil)) (.cst (.int 2))) .nil)) []) .nil))) .nil))))) (.retMove 2)))
def d18 : Df := ⟨"_law_would", defArgs (top 34), defBody (top 34), defScope (top 34), ["rows", "lot", "row", "name"], ["rows", "lot"]⟩
/-- _law_would -/
def b18 : MP.S := .ret (.comp [2] (.one 2) (.of (.var 0)) (.cmp .ge (.callB .len (.cons (.comp [3] (.one 3) (.of (.var 1)) (.cmp .ne (.var 3) (.idx (.var 2) (.cst (.int 0)))) (.var 3)) .nil)) (.idx (.var 2) (.cst (.int 1)))) (.idx (.var 2) (.cst (.int 0))))
def d19 : Df := ⟨"_law_lots", defArgs (top 35), defBody (top 35), defScope (top 35), ["rows", "found", "row", "lot"], ["rows"]⟩
/-- _law_lots -/
def b19 : MP.S := .seq (.set 1 (.list (.cons (.list (.nil)) .nil))) (.seq (.for (.one 2) (.of (.var 0)) (.set 1 (.bin .add (.var 1) (.comp [3] (.one 3) (.of (.var 1)) (.cst (.bl true)) (.bin .add (.var 3) (.list (.cons (.var 2) .nil))))))) (.ret (.var 1)))
def d20 : Df := ⟨"_law_all_join", defArgs (top 36), defBody (top 36), defScope (top 36), ["rows", "won", "here", "k", "row", "name"], ["rows", "won"]⟩
/-- _law_all_join -/
def b20 : MP.S := .seq (.set 2 (.callB .sorted (.cons (.var 1) .nil))) (.seq (.for (.one 3) (.rng (.bin .add (.callB .len (.cons (.var 0) .nil)) (.cst (.int 1)))) (.set 2 (.callB .sorted (.cons (.bin .add (.var 1) (.comp [4] (.one 4) (.of (.var 0)) (.and (.cmp .notin (.idx (.var 4) (.cst (.int 0))) (.var 1)) (.cmp .ge (.callB .len (.cons (.comp [5] (.one 5) (.of (.var 2)) (.cmp .ne (.var 5) (.idx (.var 4) (.cst (.int 0)))) (.var 5)) .nil)) (.idx (.var 4) (.cst (.int 1))))) (.idx (.var 4) (.cst (.int 0))))) .nil)))) (.ret (.cmp .eq (.callB .len (.cons (.var 2) .nil)) (.callB .len (.cons (.var 0) .nil)))))
def d21 : Df := ⟨"_law_rounds", defArgs (top 37), defBody (top 37), defScope (top 37), ["rows", "start", "found", "k", "told"], ["rows", "start"]⟩
/-- _law_rounds -/
def b21 : MP.S := .seq (.setBox 2 (.list (.cons (.callB .sorted (.cons (.var 1) .nil)) .nil))) (.seq (.for (.one 3) (.rng (.cst (.int 200))) (.seq (.set 4 (.callF 18 (.cons (.var 0) (.cons (.idx (.var 2) (.bin .sub (.callB .len (.cons (.var 2) .nil)) (.cst (.int 1)))) .nil)) [])) (.seq (.ite (.cmp .eq (.var 4) (.idx (.var 2) (.bin .sub (.callB .len (.cons (.var 2) .nil)) (.cst (.int 1))))) (.retMove 2) (.skip)) (.seq (.ite (.cmp .isin (.var 4) (.var 2)) (.ret (.cst (.non))) (.skip)) (.expr (.mut .append (.var 2) (.cons (.var 4) .nil))))))) (.ret (.cst (.non))))
def d22 : Df := ⟨"_law_refused", defArgs (top 38), defBody (top 38), defScope (top 38), ["choice", "pledges", "one", "two", "problem"], ["choice", "pledges", "one", "two"]⟩
/-- _law_refused -/
def b22 : MP.S := .seq (.tryRef (.ite (.cmp .eq (.var 0) (.cst (.int 0))) (.expr (.callF 7 (.cons (.var 1) (.cons (.var 2) .nil)) [])) (.ite (.cmp .eq (.var 0) (.cst (.int 1))) (.expr (.callF 10 (.cons (.var 1) (.cons (.var 2) .nil)) [])) (.expr (.callF 11 (.cons (.var 1) (.cons (.var 2) (.cons (.var 3) .nil))) [])))) 0) (.ret (.cst (.str ['n', 'o', 'n', 'e'])))
def d23 : Df := ⟨"law", defArgs (top 39), defBody (top 39), defScope (top 39), ["script", "pool", "pledges", "rows", "names", "row", "k", "start", "name", "due", "good", "lot", "least", "order", "number", "one", "old"], ["script"]⟩
/-- law -/
def b23 : MP.S := .seq (.setBox 1 (.callF 13 (.cons (.var 0) .nil) [])) (.seq (.set 2 (.callF 17 (.cons (.var 1) (.cons (.cst (.int 6)) .nil)) [])) (.seq (.set 3 (.callB .sorted (.cons (.var 2) .nil))) (.seq (.set 4 (.comp [5] (.one 5) (.of (.var 3)) (.cst (.bl true)) (.idx (.var 5) (.cst (.int 0))))) (.seq (.for (.one 6) (.rng (.cst (.int 5))) (.seq (.set 7 (.comp [8] (.one 8) (.of (.var 4)) (.cmp .eq (.callF 14 (.cons (.var 1) (.cons (.cst (.int 2)) .nil)) []) (.cst (.int 0))) (.var 8))) (.seq (.set 9 (.callF 21 (.cons (.var 3) (.cons (.var 7) .nil)) [])) (.ite (.cmp .is (.var 9) (.cst (.non))) (.ite (.cmp .ne (.callF 22 (.cons (.cst (.int 0)) (.cons (.var 2) (.cons (.var 7) (.cons (.cst (.int 0)) .nil)))) []) (.cst (.str ['p', 'a', 'p', 'e', 'r']))) (.ret (.cst (.bl false))) (.skip)) (.ite (.not (.callF 12 (.cons (.callF 7 (.cons (.callB .list (.cons (.var 2) .nil)) (.cons (.listI (.rev (.var 7))) .nil)) []) (.cons (.var 9) .nil)) [])) (.ret (.cst (.bl false))) (.skip)))))) (.seq (.set 10 (.comp [11] (.one 11) (.of (.callF 19 (.cons (.var 4) .nil) [])) (.callF 20 (.cons (.var 3) (.cons (.var 11) .nil)) []) (.var 11))) (.seq (.set 12 (.callB .min (.cons (.comp [11] (.one 11) (.of (.var 10)) (.cst (.bl true)) (.callB .len (.cons (.var 11) .nil))) .nil))) (.seq (.set 13 (.comp [5] (.one 5) (.of (.callB .sorted (.cons (.comp [8, 14] (.many [8, 14]) (.of (.var 3)) (.cst (.bl true)) (.tup (.cons (.bin .sub (.cst (.int 0)) (.var 14)) (.cons (.var 8) .nil)))) .nil))) (.cst (.bl true)) (.idx (.var 5) (.cst (.int 1))))) (.seq (.ite (.not (.callF 12 (.cons (.callF 8 (.cons (.callB .list (.cons (.var 2) .nil)) .nil) []) (.cons (.callB .sorted (.cons (.slice (.var 13) (.cst .non) (.var 12)) .nil)) .nil)) [])) (.ret (.cst (.bl false))) (.skip)) (.seq (.for (.one 6) (.rng (.cst (.int 6))) (.seq (.set 11 (.callF 15 (.cons (.var 1) (.cons (.list (.cons (.slice (.var 13) (.cst .non) (.var 12)) (.cons (.callF 15 (.cons (.var 1) (.cons (.var 10) .nil)) []) (.cons (.callF 15 (.cons (.var 1) (.cons (.callF 19 (.cons (.var 4) .nil) []) .nil)) []) .nil)))) .nil)) [])) (.ite (.not (.callF 12 (.cons (.callF 10 (.cons (.callB .list (.cons (.var 2) .nil)) (.cons (.callB .list (.cons (.var 11) .nil)) .nil)) []) (.cons (.and (.cmp .isin (.callB .sorted (.cons (.var 11) .nil)) (.var 10)) (.cmp .eq (.callB .len (.cons (.var 11) .nil)) (.var 12))) .nil)) [])) (.ret (.cst (.bl false))) (.skip)))) (.seq (.for (.one 8) (.of (.var 4)) (.seq (.set 14 (.callF 14 (.cons (.var 1) (.cons (.cst (.int 8)) .nil)) [])) (.seq (.ite (.not (.callF 12 (.cons (.callF 11 (.cons (.callB .list (.cons (.var 2) .nil)) (.cons (.var 8) (.cons (.var 14) .nil))) []) (.cons (.comp [15, 16] (.many [15, 16]) (.of (.var 3)) (.cst (.bl true)) (.tup (.cons (.var 15) (.cons (.ite (.cmp .eq (.var 15) (.var 8)) (.var 14) (.var 16)) .nil)))) .nil)) [])) (.ret (.cst (.bl false))) (.skip)) (.ite (.or (.cmp .ne (.callF 22 (.cons (.cst (.int 2)) (.cons (.var 2) (.cons (.var 8) (.cons (.callF 15 (.cons (.var 1) (.cons (.list (.cons (.neg (.cst (.int 1))) (.cons (.cst (.int 41)) (.cons (.cst (.bl true)) .nil)))) .nil)) []) .nil)))) []) (.cst (.str ['n', 'u', 'm', 'b', 'e', 'r']))) (.cmp .ne (.callF 22 (.cons (.cst (.int 1)) (.cons (.var 2) (.cons (.list (.cons (.var 8) (.cons (.var 8) .nil))) (.cons (.cst (.int 0)) .nil)))) []) (.cst (.str ['t', 'w', 'i', 'c', 'e'])))) (.ret (.cst (.bl false))) (.skip))))) (.ret (.and (.cmp .eq (.callF 22 (.cons (.cst (.int 0)) (.cons (.var 2) (.cons (.list (.cons (.cst (.str ['n', 'o', 'b', 'o', 'd', 'y', 'h', 'e', 'r', 'e'])) .nil)) (.cons (.cst (.int 0)) .nil)))) []) (.cst (.str ['u', 'n', 'k', 'n', 'o', 'w', 'n']))) (.and (.cmp .eq (.callF 22 (.cons (.cst (.int 1)) (.cons (.var 2) (.cons (.list (.cons (.cst (.str ['n', 'o', 'b', 'o', 'd', 'y', 'h', 'e', 'r', 'e'])) .nil)) (.cons (.cst (.int 0)) .nil)))) []) (.cst (.str ['u', 'n', 'k', 'n', 'o', 'w', 'n']))) (.cmp .eq (.callF 22 (.cons (.cst (.int 2)) (.cons (.var 2) (.cons (.cst (.str ['n', 'o', 'b', 'o', 'd', 'y', 'h', 'e', 'r', 'e'])) (.cons (.cst (.int 0)) .nil)))) []) (.cst (.str ['u', 'n', 'k', 'n', 'o', 'w', 'n']))))))))))))))))
def dh : Df := ⟨"_law_refusal", defArgs (top 32), defBody (top 32), defScope (top 32), ["problem", "kinds", "found", "k"], ["problem"]⟩
/-- _law_refusal -/
def bh : MP.S := .seq (.set 1 (.list (.cons (.isinst (.var 0) [.cls 2]) (.cons (.isinst (.var 0) [.cls 6]) (.cons (.isinst (.var 0) [.cls 3]) .nil))))) (.seq (.set 1 (.bin .add (.var 1) (.list (.cons (.isinst (.var 0) [.cls 4]) .nil)))) (.seq (.set 2 (.comp [3] (.one 3) (.rng (.cst (.int 4))) (.idx (.var 1) (.var 3)) (.idx (.list (.cons (.cst (.str ['n', 'u', 'm', 'b', 'e', 'r'])) (.cons (.cst (.str ['p', 'a', 'p', 'e', 'r'])) (.cons (.cst (.str ['t', 'w', 'i', 'c', 'e'])) (.cons (.cst (.str ['u', 'n', 'k', 'n', 'o', 'w', 'n'])) .nil))))) (.var 3)))) (.ret (.ite (.and (.cmp .eq (.callB .len (.cons (.var 2) .nil)) (.cst (.int 1))) (.isinst (.var 0) [.cls 999])) (.idx (.var 2) (.cst (.int 0))) (.cst (.str ['s', 'e', 'v', 'e', 'r', 'a', 'l']))))))
def D : Ld where
  defs := [d0, d1, d2, d3, d4, d5, d6, d7, d8, d9, d10, d11, d12, d13, d14, d15, d16, d17, d18, d19, d20, d21, d22, d23]
  dfl := [[], [], [(.int 0, .int 0), (.int 1000000, .int 1000000)], [(.int 0, .int 0), (.int 1000000, .int 1000000)], [], [], [], [], [], [], [], [], [], [], [], [], [], [], [], [], [], [], [], []]
  clsN := ["ChooseError", "InvalidName", "InvalidNumber", "DuplicateName", "UnknownName", "TooMany", "InvalidPaper"]
  cst := [("LETTERS", .str ['a', 'b', 'c', 'd', 'e', 'f', 'g', 'h', 'i', 'j', 'k', 'l', 'm', 'n', 'o', 'p', 'q', 'r', 's', 't', 'u', 'v', 'w', 'x', 'y', 'z']), ("LONGEST", .int 12), ("MOST", .int 40)]
  free := ["abs", "bool", "int", "isinstance", "len", "list", "min", "range", "reversed", "sorted", "str", "tuple"]
  fns := [⟨1, 2, true, b0⟩, ⟨1, 1, true, b1⟩, ⟨3, 3, true, b2⟩, ⟨3, 3, true, b3⟩, ⟨1, 5, true, b4⟩, ⟨2, 5, true, b5⟩, ⟨2, 5, true, b6⟩, ⟨2, 4, true, b7⟩, ⟨1, 6, true, b8⟩, ⟨2, 6, true, b9⟩, ⟨2, 4, true, b10⟩, ⟨3, 7, true, b11⟩, ⟨2, 3, true, b12⟩, ⟨1, 1, true, b13⟩, ⟨2, 5, false, b14⟩, ⟨2, 2, false, b15⟩, ⟨2, 9, false, b16⟩, ⟨2, 5, false, b17⟩, ⟨2, 4, true, b18⟩, ⟨1, 4, true, b19⟩, ⟨2, 6, true, b20⟩, ⟨2, 5, true, b21⟩, ⟨4, 5, true, b22⟩, ⟨1, 17, false, b23⟩]
  fuel := 100000
  sub := fun c d => match c, d with
    | 0, 0 => true
    | 1, 0 => true
    | 1, 1 => true
    | 2, 0 => true
    | 2, 2 => true
    | 3, 0 => true
    | 3, 3 => true
    | 4, 0 => true
    | 4, 4 => true
    | 5, 0 => true
    | 5, 5 => true
    | 6, 0 => true
    | 6, 6 => true
    | _, _ => false
  hd := dh
  hx := "problem"
  hb := bh
  bx := [("ValueError", 999)]
theorem n0 (kV doc pm : Value) (an : Option Addr) (cdv ct : Value) (us : List Value) (hl : us.length = d0.ps.length) : bindArgs (PySem.W.fnOf d0.name d0.name d0.params d0.body d0.scope .none kV doc pm an cdv ct) ⟨us, []⟩ = pure (d0.ps.zip us) := match us, hl with | [_], _ => rfl
theorem a0 : BindsOk d0 [] := binds0 n0
theorem n1 (kV doc pm : Value) (an : Option Addr) (cdv ct : Value) (us : List Value) (hl : us.length = d1.ps.length) : bindArgs (PySem.W.fnOf d1.name d1.name d1.params d1.body d1.scope .none kV doc pm an cdv ct) ⟨us, []⟩ = pure (d1.ps.zip us) := match us, hl with | [_], _ => rfl
theorem a1 : BindsOk d1 [] := binds0 n1
theorem a2 : BindsOk d2 [(.int 0, .int 0), (.int 1000000, .int 1000000)] := bindsD (fun T kV doc pm an cdv ct us its j hj hu hi => match j, hj, us, its, hu, hi with
  | 0, _, [_], [_, _], _, _ => ⟨_, rfl, rfl⟩
  | 1, _, [_, _], [_, _], _, _ => ⟨_, rfl, rfl⟩
  | 2, _, [_, _, _], [_, _], _, _ => ⟨_, rfl, rfl⟩
  | j + 3, hj, _, _, _, _ => absurd hj (by simp)) (by decide)
theorem a3 : BindsOk d3 [(.int 0, .int 0), (.int 1000000, .int 1000000)] := bindsD (fun T kV doc pm an cdv ct us its j hj hu hi => match j, hj, us, its, hu, hi with
  | 0, _, [_], [_, _], _, _ => ⟨_, rfl, rfl⟩
  | 1, _, [_, _], [_, _], _, _ => ⟨_, rfl, rfl⟩
  | 2, _, [_, _, _], [_, _], _, _ => ⟨_, rfl, rfl⟩
  | j + 3, hj, _, _, _, _ => absurd hj (by simp)) (by decide)
theorem n4 (kV doc pm : Value) (an : Option Addr) (cdv ct : Value) (us : List Value) (hl : us.length = d4.ps.length) : bindArgs (PySem.W.fnOf d4.name d4.name d4.params d4.body d4.scope .none kV doc pm an cdv ct) ⟨us, []⟩ = pure (d4.ps.zip us) := match us, hl with | [_], _ => rfl
theorem a4 : BindsOk d4 [] := binds0 n4
theorem n5 (kV doc pm : Value) (an : Option Addr) (cdv ct : Value) (us : List Value) (hl : us.length = d5.ps.length) : bindArgs (PySem.W.fnOf d5.name d5.name d5.params d5.body d5.scope .none kV doc pm an cdv ct) ⟨us, []⟩ = pure (d5.ps.zip us) := match us, hl with | [_, _], _ => rfl
theorem a5 : BindsOk d5 [] := binds0 n5
theorem n6 (kV doc pm : Value) (an : Option Addr) (cdv ct : Value) (us : List Value) (hl : us.length = d6.ps.length) : bindArgs (PySem.W.fnOf d6.name d6.name d6.params d6.body d6.scope .none kV doc pm an cdv ct) ⟨us, []⟩ = pure (d6.ps.zip us) := match us, hl with | [_, _], _ => rfl
theorem a6 : BindsOk d6 [] := binds0 n6
theorem n7 (kV doc pm : Value) (an : Option Addr) (cdv ct : Value) (us : List Value) (hl : us.length = d7.ps.length) : bindArgs (PySem.W.fnOf d7.name d7.name d7.params d7.body d7.scope .none kV doc pm an cdv ct) ⟨us, []⟩ = pure (d7.ps.zip us) := match us, hl with | [_, _], _ => rfl
theorem a7 : BindsOk d7 [] := binds0 n7
theorem n8 (kV doc pm : Value) (an : Option Addr) (cdv ct : Value) (us : List Value) (hl : us.length = d8.ps.length) : bindArgs (PySem.W.fnOf d8.name d8.name d8.params d8.body d8.scope .none kV doc pm an cdv ct) ⟨us, []⟩ = pure (d8.ps.zip us) := match us, hl with | [_], _ => rfl
theorem a8 : BindsOk d8 [] := binds0 n8
theorem n9 (kV doc pm : Value) (an : Option Addr) (cdv ct : Value) (us : List Value) (hl : us.length = d9.ps.length) : bindArgs (PySem.W.fnOf d9.name d9.name d9.params d9.body d9.scope .none kV doc pm an cdv ct) ⟨us, []⟩ = pure (d9.ps.zip us) := match us, hl with | [_, _], _ => rfl
theorem a9 : BindsOk d9 [] := binds0 n9
theorem n10 (kV doc pm : Value) (an : Option Addr) (cdv ct : Value) (us : List Value) (hl : us.length = d10.ps.length) : bindArgs (PySem.W.fnOf d10.name d10.name d10.params d10.body d10.scope .none kV doc pm an cdv ct) ⟨us, []⟩ = pure (d10.ps.zip us) := match us, hl with | [_, _], _ => rfl
theorem a10 : BindsOk d10 [] := binds0 n10
theorem n11 (kV doc pm : Value) (an : Option Addr) (cdv ct : Value) (us : List Value) (hl : us.length = d11.ps.length) : bindArgs (PySem.W.fnOf d11.name d11.name d11.params d11.body d11.scope .none kV doc pm an cdv ct) ⟨us, []⟩ = pure (d11.ps.zip us) := match us, hl with | [_, _, _], _ => rfl
theorem a11 : BindsOk d11 [] := binds0 n11
theorem n12 (kV doc pm : Value) (an : Option Addr) (cdv ct : Value) (us : List Value) (hl : us.length = d12.ps.length) : bindArgs (PySem.W.fnOf d12.name d12.name d12.params d12.body d12.scope .none kV doc pm an cdv ct) ⟨us, []⟩ = pure (d12.ps.zip us) := match us, hl with | [_, _], _ => rfl
theorem a12 : BindsOk d12 [] := binds0 n12
theorem n13 (kV doc pm : Value) (an : Option Addr) (cdv ct : Value) (us : List Value) (hl : us.length = d13.ps.length) : bindArgs (PySem.W.fnOf d13.name d13.name d13.params d13.body d13.scope .none kV doc pm an cdv ct) ⟨us, []⟩ = pure (d13.ps.zip us) := match us, hl with | [_], _ => rfl
theorem a13 : BindsOk d13 [] := binds0 n13
theorem n14 (kV doc pm : Value) (an : Option Addr) (cdv ct : Value) (us : List Value) (hl : us.length = d14.ps.length) : bindArgs (PySem.W.fnOf d14.name d14.name d14.params d14.body d14.scope .none kV doc pm an cdv ct) ⟨us, []⟩ = pure (d14.ps.zip us) := match us, hl with | [_, _], _ => rfl
theorem a14 : BindsOk d14 [] := binds0 n14
theorem n15 (kV doc pm : Value) (an : Option Addr) (cdv ct : Value) (us : List Value) (hl : us.length = d15.ps.length) : bindArgs (PySem.W.fnOf d15.name d15.name d15.params d15.body d15.scope .none kV doc pm an cdv ct) ⟨us, []⟩ = pure (d15.ps.zip us) := match us, hl with | [_, _], _ => rfl
theorem a15 : BindsOk d15 [] := binds0 n15
theorem n16 (kV doc pm : Value) (an : Option Addr) (cdv ct : Value) (us : List Value) (hl : us.length = d16.ps.length) : bindArgs (PySem.W.fnOf d16.name d16.name d16.params d16.body d16.scope .none kV doc pm an cdv ct) ⟨us, []⟩ = pure (d16.ps.zip us) := match us, hl with | [_, _], _ => rfl
theorem a16 : BindsOk d16 [] := binds0 n16
theorem n17 (kV doc pm : Value) (an : Option Addr) (cdv ct : Value) (us : List Value) (hl : us.length = d17.ps.length) : bindArgs (PySem.W.fnOf d17.name d17.name d17.params d17.body d17.scope .none kV doc pm an cdv ct) ⟨us, []⟩ = pure (d17.ps.zip us) := match us, hl with | [_, _], _ => rfl
theorem a17 : BindsOk d17 [] := binds0 n17
theorem n18 (kV doc pm : Value) (an : Option Addr) (cdv ct : Value) (us : List Value) (hl : us.length = d18.ps.length) : bindArgs (PySem.W.fnOf d18.name d18.name d18.params d18.body d18.scope .none kV doc pm an cdv ct) ⟨us, []⟩ = pure (d18.ps.zip us) := match us, hl with | [_, _], _ => rfl
theorem a18 : BindsOk d18 [] := binds0 n18
theorem n19 (kV doc pm : Value) (an : Option Addr) (cdv ct : Value) (us : List Value) (hl : us.length = d19.ps.length) : bindArgs (PySem.W.fnOf d19.name d19.name d19.params d19.body d19.scope .none kV doc pm an cdv ct) ⟨us, []⟩ = pure (d19.ps.zip us) := match us, hl with | [_], _ => rfl
theorem a19 : BindsOk d19 [] := binds0 n19
theorem n20 (kV doc pm : Value) (an : Option Addr) (cdv ct : Value) (us : List Value) (hl : us.length = d20.ps.length) : bindArgs (PySem.W.fnOf d20.name d20.name d20.params d20.body d20.scope .none kV doc pm an cdv ct) ⟨us, []⟩ = pure (d20.ps.zip us) := match us, hl with | [_, _], _ => rfl
theorem a20 : BindsOk d20 [] := binds0 n20
theorem n21 (kV doc pm : Value) (an : Option Addr) (cdv ct : Value) (us : List Value) (hl : us.length = d21.ps.length) : bindArgs (PySem.W.fnOf d21.name d21.name d21.params d21.body d21.scope .none kV doc pm an cdv ct) ⟨us, []⟩ = pure (d21.ps.zip us) := match us, hl with | [_, _], _ => rfl
theorem a21 : BindsOk d21 [] := binds0 n21
theorem n22 (kV doc pm : Value) (an : Option Addr) (cdv ct : Value) (us : List Value) (hl : us.length = d22.ps.length) : bindArgs (PySem.W.fnOf d22.name d22.name d22.params d22.body d22.scope .none kV doc pm an cdv ct) ⟨us, []⟩ = pure (d22.ps.zip us) := match us, hl with | [_, _, _, _], _ => rfl
theorem a22 : BindsOk d22 [] := binds0 n22
theorem n23 (kV doc pm : Value) (an : Option Addr) (cdv ct : Value) (us : List Value) (hl : us.length = d23.ps.length) : bindArgs (PySem.W.fnOf d23.name d23.name d23.params d23.body d23.scope .none kV doc pm an cdv ct) ⟨us, []⟩ = pure (d23.ps.zip us) := match us, hl with | [_], _ => rfl
theorem a23 : BindsOk d23 [] := binds0 n23
theorem nh (kV doc pm : Value) (an : Option Addr) (cdv ct : Value) (us : List Value) (hl : us.length = dh.ps.length) : bindArgs (PySem.W.fnOf dh.name dh.name dh.params dh.body dh.scope .none kV doc pm an cdv ct) ⟨us, []⟩ = pure (dh.ps.zip us) := match us, hl with | [_], _ => rfl
theorem ah : BindsOk dh [] := binds0 nh
theorem binds : AllB D.defs D.dfl := ⟨a0, a1, a2, a3, a4, a5, a6, a7, a8, a9, a10, a11, a12, a13, a14, a15, a16, a17, a18, a19, a20, a21, a22, a23, trivial⟩
theorem tables : D.okB = true := by decide +kernel
end K69
end

section
set_option Elab.async false
set_option linter.all false
set_option maxRecDepth 4000
set_option maxHeartbeats 0
namespace K69
open MP
open MP (S E T EL It)
abbrev P : Prog := D.prog
abbrev Cn (k : Nat) : Ctx := ctxN D.prog k
/-! ### numbers, names -/
theorem le_cmp (a b : Int) : (compare a b != Ordering.gt) = decide (a ≤ b) := by
  rw [Int.compare_eq_ite_lt]
  by_cases h : a < b
  · rw [if_pos h]; exact (decide_eq_true (by omega)).symm
  · rw [if_neg h]
    by_cases g : b < a
    · rw [if_pos g]; exact (decide_eq_false (by omega)).symm
    · rw [if_neg g]; exact (decide_eq_true (by omega)).symm
theorem lt_cmp (a b : Int) : (compare a b == Ordering.lt) = decide (a < b) := by
  rw [Int.compare_eq_ite_lt]
  by_cases h : a < b
  · rw [if_pos h]; exact (decide_eq_true h).symm
  · rw [if_neg h]
    by_cases g : b < a
    · rw [if_pos g]; exact (decide_eq_false h).symm
    · rw [if_neg g]; exact (decide_eq_false h).symm
theorem gt_cmp (a b : Int) : (compare a b == Ordering.gt) = decide (b < a) := by
  rw [Int.compare_eq_ite_lt]
  by_cases h : a < b
  · rw [if_pos h]; exact (decide_eq_false (by omega)).symm
  · rw [if_neg h]
    by_cases g : b < a
    · rw [if_pos g]; exact (decide_eq_true g).symm
    · rw [if_neg g]; exact (decide_eq_false g).symm
theorem ge_cmp (a b : Int) : (compare a b != Ordering.lt) = decide (b ≤ a) := by
  rw [Int.compare_eq_ite_lt]
  by_cases h : a < b
  · rw [if_pos h]; exact (decide_eq_false (by omega)).symm
  · rw [if_neg h]
    by_cases g : b < a
    · rw [if_pos g]; exact (decide_eq_true (by omega)).symm
    · rw [if_neg g]; exact (decide_eq_true (by omega)).symm
theorem num2 (k : Nat) (m : Store) (v a b : Int) : callN P (k + 1) 2 [.int v, .int a, .int b] m = .ok (.bl (decide (a ≤ v) && decide (v ≤ b)), false) m := by
  refine call_g (i := 2) rfl rfl rfl rfl (m1 := []) ?_ rfl
  show exec (Cn k) b2 [some (.int v), some (.int a), some (.int b)] [] = _
  unfold b2
  rw [x_seq (x_ifF (x := .bl false) rfl rfl)]
  refine x_ret ?_
  have e1 := le_cmp a v
  have e2 := le_cmp v b
  show (Res.ofO (some (compare a v != Ordering.gt)) []).bind (fun r m => if r then Res.ofO ((some (compare v b != Ordering.gt)).map T.bl) m else .ok (.bl false) m) = _
  rw [e1, e2]
  cases decide (a ≤ v) <;> rfl
theorem num3 (k : Nat) (m : Store) {v a b : Int} (h1 : a ≤ v) (h2 : v ≤ b) : callN P (k + 2) 3 [.int v, .int a, .int b] m = .ok (.int v, false) m := by
  refine call_g (i := 3) rfl rfl rfl rfl (m1 := []) ?_ rfl
  show exec (Cn (k + 1)) b3 [some (.int v), some (.int a), some (.int b)] [] = _
  unfold b3
  have e : eval (Cn (k + 1)) (.callF 2 (.cons (.var 0) (.cons (.var 1) (.cons (.var 2) .nil))) []) [some (.int v), some (.int a), some (.int b)] [] = .ok (.bl true) [] := by
    rw [c_call0 (r := (.bl (decide (a ≤ v) && decide (v ≤ b)), false)) (ds_cons (d_var rfl) (ds_cons (d_var rfl) (ds_cons (d_var rfl) ds_nil))) (num2 k [] v a b)]
    rw [decide_eq_true h1, decide_eq_true h2]; rfl
  rw [x_seq (x_ifF (d_not e rfl) rfl)]
  exact x_ret (d_var rfl)
/-- a number check as it stands in the defs -/
theorem chk {k i : Nat} {env : Env} {m : Store} {v : Int} (h : env.get i = some (.int v)) (h1 : 0 ≤ v) (h2 : v ≤ 40) : eval (Cn (k + 2)) (.callF 3 (.cons (.var i) (.cons (.cst (.int 0)) (.cons (.glo 0 (.int 40)) .nil))) []) env m = .ok (.int v) m :=
  c_call0 (r := (.int v, false)) (ds_cons (d_var h) (ds_cons ev_cst (ds_cons ev_glo ds_nil))) (num3 k m h1 h2)
def letters : Nm := ['a', 'b', 'c', 'd', 'e', 'f', 'g', 'h', 'i', 'j', 'k', 'l', 'm', 'n', 'o', 'p', 'q', 'r', 's', 't', 'u', 'v', 'w', 'x', 'y', 'z']
structure Good (n : Nm) : Prop where
  lo : 1 ≤ n.length
  hi : n.length ≤ 12
  all : ∀ c ∈ n, c ∈ letters
theorem name0 (k : Nat) (m : Store) {n : Nm} (h : Good n) : callN P (k + 1) 0 [.str n] m = .ok (.bl true, false) m := by
  have hline : n.length ≤ LINE := Nat.le_trans h.hi (by decide)
  have c1 : exec (Cn k) (.ite (.or (.not (.isinst (.var 0) [.str])) (.not (.chain .le .le (.cst (.int 1)) (.callB .len (.cons (.var 0) .nil)) (.glo 0 (.int 12))))) (.ret (.cst (.bl false))) (.skip)) [some (.str n), none] [] = .nxt [some (.str n), none] [] := by
    refine x_ifF (x := .bl false) (d_orF (x := .bl false) rfl rfl (d_not (x := .bl true) ?_ rfl)) rfl
    have el : eval (Cn k) (.callB .len (.cons (.var 0) .nil)) [some (.str n), none] [] = .ok (.int n.length) [] := by
      refine d_bi1 (x := .str n) rfl ?_
      show (if n.length ≤ LINE then some (T.int n.length) else none) = _
      rw [if_pos hline]
    show ((Res.ok (T.int 1) []).bind fun x m => (eval (Cn k) (.callB .len (.cons (.var 0) .nil)) [some (.str n), none] m).bind fun y m => _) = _
    rw [Res.bind_ok, el, Res.bind_ok]
    have a1 : (compare (1 : Int) n.length != Ordering.gt) = true := by
      rw [Int.compare_eq_ite_lt]; have := h.lo
      split
      · rfl
      · rw [if_neg (by omega)]; rfl
    have a2 : (compare (n.length : Int) 12 != Ordering.gt) = true := by
      rw [Int.compare_eq_ite_lt]; have := h.hi
      split
      · rfl
      · rw [if_neg (by omega)]; rfl
    show (Res.ofO (some (compare (1 : Int) n.length != Ordering.gt)) []).bind (fun r m => if r then Res.ofO ((some (compare (n.length : Int) 12 != Ordering.gt)).map T.bl) m else .ok (.bl false) m) = _
    rw [a1, a2]; rfl
  have c2 : ∀ (cs : List Char), (∀ c ∈ cs, c ∈ letters) → ∀ e1 : Option T, ∃ e2 : Option T, forLoop ⟨n.map fun c => .str [c], none, false⟩ (fun t env m => (Res.ofO ((Tgt.one 1).set m t env) m).out env fun env m => exec (Cn k) (.ite (.cmp .notin (.var 1) (.glo 0 (.str letters))) (.ret (.cst (.bl false))) (.skip)) env m) (cs.map fun c => .str [c]) [some (.str n), e1] [] = .nxt [some (.str n), e2] [] := by
    intro cs
    induction cs with
    | nil =>
      intro _ e1
      exact ⟨e1, by unfold forLoop; rw [List.map_nil]; simp only; rw [if_pos (wok_none rfl)]⟩
    | cons c cs ih =>
      intro hc e1
      obtain ⟨e2, q⟩ := ih (fun x hx => hc x (List.mem_cons_of_mem _ hx)) (some (.str [c]))
      refine ⟨e2, ?_⟩
      rw [List.map_cons, forL_nxt rfl (e1 := [some (.str n), some (.str [c])]) (m1 := [])]
      · exact q
      · show exec (Cn k) _ [some (.str n), some (.str [c])] [] = _
        refine x_ifF (x := .bl false) ?_ rfl
        have : letters.contains c = true := List.contains_iff_mem.mpr (hc c (List.mem_cons_self ..))
        show Res.ofO (((some (letters.contains c)).map (!·)).map T.bl) [] = _
        rw [this]; rfl
  obtain ⟨e2, q⟩ := c2 n h.all none
  refine call_g (i := 0) rfl rfl rfl rfl (m1 := []) ?_ rfl
  show exec (Cn k) b0 [some (.str n), none] [] = _
  unfold b0
  rw [x_seq c1]
  have q' : exec (Cn k) (.for (.one 1) (.of (.var 0)) (.ite (.cmp .notin (.var 1) (.glo 0 (.str letters))) (.ret (.cst (.bl false))) (.skip))) [some (.str n), none] [] = .nxt [some (.str n), e2] [] := by
    rw [ex_for]
    exact q
  have q2 := x_seq (b := .ret (.cst (.bl true))) q'
  exact q2.trans (x_ret ev_cst)
theorem name1 (k : Nat) (m : Store) {n : Nm} (h : Good n) : callN P (k + 2) 1 [.str n] m = .ok (.str n, false) m := by
  refine call_g (i := 1) rfl rfl rfl rfl (m1 := []) ?_ rfl
  show exec (Cn (k + 1)) b1 [some (.str n)] [] = _
  unfold b1
  rw [x_seq (x_ifF (d_not (c_call0 (r := (.bl true, false)) (ds_cons (d_var rfl) ds_nil) (name0 k [] h)) rfl) rfl)]
  exact x_ret (d_var rfl)
/-! ### farms -/
abbrev Row := Nm × Int
def rowT (r : Row) : T := .tup [.str r.1, .int r.2]
structure Farms (rows : List Row) : Prop where
  good : ∀ r ∈ rows, Good r.1
  lo : ∀ r ∈ rows, 0 ≤ r.2
  hi : ∀ r ∈ rows, r.2 ≤ 40
  nd : (rows.map (·.1)).Nodup
  len : rows.length ≤ 40
theorem up_row (r : Row) : T.upTo 0 (rowT r) = true := rfl
theorem up_rows (rows : List Row) : T.upTo 0 (.lst (rows.map rowT)) = true := upTos_map fun r _ => up_row r
theorem up_ints (l : List Int) : T.upTo 0 (.lst (l.map T.int)) = true := upTos_map fun r _ => rfl
abbrev srt (rows : List Row) : List Row := sortBy rowT rows
theorem kd_row (r : Row) : sortKd (rowT r) = some (2, [true, false]) := rfl
end K69
end

section
set_option Elab.async false
set_option linter.all false
set_option maxRecDepth 4000
set_option maxHeartbeats 0
namespace K69
open MP
open MP (S E T EL It)
mutual
theorem same_refl : ∀ t : T, T.same t t = true
  | .non => rfl
  | .bl b => by show (b == b) = true; simp
  | .int b => by show (b == b) = true; simp
  | .str b => by show (b == b) = true; simp
  | .lst xs => sames_refl xs
  | .tup xs => sames_refl xs
  | .dct ks vs => by show (T.sames ks ks && T.sames vs vs) = true; rw [sames_refl ks, sames_refl vs]; rfl
  | .set xs => sames_refl xs
  | .obj n => by show (n == n) = true; simp
  | .exc c xs => by show (c == c && T.sames xs xs) = true; rw [sames_refl xs]; simp
  | .scr xs => by show (xs == xs) = true; simp
theorem sames_refl : ∀ ts : List T, T.sames ts ts = true
  | [] => rfl
  | t :: ts => by show (T.same t t && T.sames ts ts) = true; rw [same_refl t, sames_refl ts]; rfl
end
def body4 : S := .seq (.expr (.callF 1 (.cons (.var 2) .nil) [])) (.seq (.ite (.comp [4] (.one 4) (.of (.var 1)) (.cmp .eq (.idx (.var 4) (.cst (.int 0))) (.var 2)) (.var 4)) (.raise 3 false (.cons (.var 2) .nil)) (.skip)) (.expr (.mut .append (.var 1) (.cons (.tup (.cons (.var 2) (.cons (.callF 3 (.cons (.var 3) (.cons (.cst (.int 0)) (.cons (.glo 0 (.int 40)) .nil))) []) .nil))) .nil))))
theorem find4 {C : Ctx} {rows : List Row} {n : Nm} {F x3 : Option T} (h : n ∉ rows.map (·.1)) (hl : rows.length ≤ LINE) :
    eval C (.comp [4] (.one 4) (.of (.var 1)) (.cmp .eq (.idx (.var 4) (.cst (.int 0))) (.var 2)) (.var 4)) [F, some (.obj 0), some (.str n), x3, none] [.lst (rows.map rowT)] = .ok (.lst []) [.lst (rows.map rowT)] := by
  have e := d_compW (C := C) (env := [F, some (.obj 0), some (.str n), x3, none]) (m := [.lst (rows.map rowT)]) (own := [4]) (tg := .one 4) (it := .of (.var 1)) (c := .cmp .eq (.idx (.var 4) (.cst (.int 0))) (.var 2)) (e := .var 4) (l := rows) (f := rowT) (v := rowT) (p := fun r => r.1 == n) (w := ⟨rows.map rowT, some 0, false⟩) (E := fun r => [F, some (.obj 0), some (.str n), x3, some (rowT r)])
    rfl rfl (by show (true && T.sames (rows.map rowT) (rows.map rowT)) = true; rw [sames_refl]; rfl) (fun _ _ => rfl) (fun _ _ => rfl) (fun _ _ _ => rfl) hl
  rw [List.filter_eq_nil_iff.mpr (fun r hr q => h (List.mem_map.mpr ⟨r, hr, by simpa using q⟩))] at e
  exact e
theorem turn4 {k : Nat} {rows : List Row} {r : Row} {F : Option T} (hg : Good r.1) (h0 : 0 ≤ r.2) (h1 : r.2 ≤ 40) (h : r.1 ∉ rows.map (·.1)) (hl : rows.length < 100) :
    exec (Cn (k + 2)) body4 [F, some (.obj 0), some (.str r.1), some (.int r.2), none] [.lst (rows.map rowT)] = .nxt [F, some (.obj 0), some (.str r.1), some (.int r.2), none] [.lst ((rows ++ [r]).map rowT)] := by
  unfold body4
  have hL : rows.length < LINE := Nat.lt_of_lt_of_le hl (by decide)
  rw [x_seq (x_expr (c_call0 (r := (.str r.1, false)) (ds_cons (d_var rfl) ds_nil) (name1 k _ hg)))]
  rw [x_seq (x_ifF (find4 h (Nat.le_of_lt hL)) rfl)]
  refine x_expr (t := .non) ?_
  have a : evals (Cn (k + 2)) (.cons (.tup (.cons (.var 2) (.cons (.callF 3 (.cons (.var 3) (.cons (.cst (.int 0)) (.cons (.glo 0 (.int 40)) .nil))) []) .nil))) .nil) [F, some (.obj 0), some (.str r.1), some (.int r.2), none] [.lst (rows.map rowT)] = .ok [rowT r] [.lst (rows.map rowT)] :=
    ds_cons (d_tup2 (d_var rfl) (chk rfl h0 h1)) ds_nil
  show (if true = true then (evals (Cn (k + 2)) _ _ _).bind (fun xs m => mutR m .append (.obj 0) xs) else Res.stuck) = _
  rw [if_pos rfl, a, Res.bind_ok]
  show (match (if (rows.map rowT).length < LINE then some (T.non, Cell.lst (rows.map rowT ++ [rowT r])) else none) with | some (y, c) => Res.ok y ([Cell.lst (rows.map rowT)].set 0 c) | none => .stuck) = _
  rw [if_pos (by rw [List.length_map]; exact hL), List.map_append]
  rfl
theorem loop4 {k : Nat} {F : Option T} {w : Walk} (hw : w.at? = none) : ∀ (todo done : List Row) (x2 x3 : Option T), (∀ r ∈ todo, Good r.1 ∧ 0 ≤ r.2 ∧ r.2 ≤ 40) → ((done ++ todo).map (·.1)).Nodup → (done ++ todo).length ≤ 40 →
    ∃ y2 y3, forLoop w (fun t env m => (Res.ofO ((Tgt.many [2, 3]).set m t env) m).out env fun env m => exec (Cn (k + 2)) body4 env m) (todo.map rowT) [F, some (.obj 0), x2, x3, none] [.lst (done.map rowT)] = .nxt [F, some (.obj 0), y2, y3, none] [.lst ((done ++ todo).map rowT)]
  | [], done, x2, x3, _, _, _ => by
    refine ⟨x2, x3, ?_⟩
    rw [List.map_nil, List.append_nil]
    unfold forLoop
    rw [if_pos (wok_none hw)]
  | r :: todo, done, x2, x3, h, nd, hl => by
    obtain ⟨g1, g2, g3⟩ := h r (List.mem_cons_self ..)
    have nd' : ((done ++ [r] ++ todo).map (·.1)).Nodup := by simpa using nd
    have hl' : (done ++ [r] ++ todo).length ≤ 40 := by simpa using hl
    obtain ⟨y2, y3, q⟩ := loop4 (k := k) (F := F) hw todo (done ++ [r]) (some (.str r.1)) (some (.int r.2)) (fun x hx => h x (List.mem_cons_of_mem _ hx)) nd' hl'
    refine ⟨y2, y3, ?_⟩
    rw [List.map_cons, forL_nxt hw (e1 := [F, some (.obj 0), some (.str r.1), some (.int r.2), none]) (m1 := [.lst ((done ++ [r]).map rowT)])]
    · rw [q]; simp
    · refine turn4 g1 g2 g3 (fun hm => ?_) (by simp at hl; omega)
      rw [List.map_append, List.map_cons] at nd
      obtain ⟨_, _, d⟩ := List.nodup_append.mp nd
      exact d r.1 hm r.1 (List.mem_cons_self ..) rfl
theorem farms_ok (k : Nat) (m : Store) {rows : List Row} (h : Farms rows) : callN P (k + 3) 4 [.lst (rows.map rowT)] m = .ok (.lst ((srt rows).map rowT), false) m := by
  have hL : rows.length ≤ LINE := Nat.le_trans h.len (by decide)
  obtain ⟨y2, y3, q⟩ := loop4 (k := k) (F := some (.lst (rows.map rowT))) (w := ⟨rows.map rowT, none, false⟩) rfl rows [] none none (fun r hr => ⟨h.good r hr, h.lo r hr, h.hi r hr⟩) h.nd h.len
  refine call_g (i := 4) rfl rfl rfl (by show (T.upTo 0 (.lst (rows.map rowT)) && true) = true; rw [up_rows]; rfl) (m1 := [.lst (rows.map rowT)]) ?_ (up_rows _)
  show exec (Cn (k + 2)) b4 [some (.lst (rows.map rowT)), none, none, none, none] [] = _
  unfold b4
  have c1 : eval (Cn (k + 2)) (.cmp .gt (.callB .len (.cons (.var 0) .nil)) (.glo 0 (.int 40))) [some (.lst (rows.map rowT)), none, none, none, none] [] = .ok (.bl false) [] := by
    refine d_cmp (d_len (d_var rfl)) ev_glo ?_
    show some (compare ((rows.map rowT).length : Int) 40 == Ordering.gt) = _
    rw [gt_cmp, decide_eq_false]
    rw [List.length_map]; have := h.len; omega
  rw [x_seq (x_ifF c1 rfl)]
  rw [x_seq (show exec (Cn (k + 2)) (.setBox 1 (.list .nil)) [some (.lst (rows.map rowT)), none, none, none, none] [] = .nxt [some (.lst (rows.map rowT)), some (.obj 0), none, none, none] [.lst []] from rfl)]
  have q' : exec (Cn (k + 2)) (.for (.many [2, 3]) (.of (.var 0)) body4) [some (.lst (rows.map rowT)), some (.obj 0), none, none, none] [.lst []] = .nxt [some (.lst (rows.map rowT)), some (.obj 0), y2, y3, none] [.lst (rows.map rowT)] := by
    rw [ex_for, d_of (d_var rfl), Res.out_ok]
    exact q
  have q2 := x_seq (b := .ret (.callB .sorted (.cons (.var 1) .nil))) q'
  refine q2.trans (x_ret (d_bi1 (x := .obj 0) (d_var rfl) ?_))
  have ok : sortOk (rows.map rowT) = true := sortOk_of (k := (2, [true, false])) (fun x hx => by obtain ⟨y, hy, rfl⟩ := List.mem_map.mp hx; rfl) (by decide)
  show (if sortOk (rows.map rowT) then some (T.lst (sortT (rows.map rowT))) else none) = _
  rw [ok, sortBy_map]; rfl
theorem srt_len (rows : List Row) : (srt rows).length = rows.length := (sortBy_perm rowT rows).length_eq
end K69
end

section
set_option Elab.async false
set_option linter.all false
set_option maxRecDepth 100000
set_option maxHeartbeats 0
namespace K69
open MP
open MP (S E T EL It)
/-! ### names in order -/
abbrev nms (rows : List Row) : List Nm := (srt rows).map (·.1)
theorem row_inj (a b : Row) (h : keyT (rowT a) = keyT (rowT b)) : a = b := by
  have : [(Sum.inr (a.1.map Char.toNat) : At), Sum.inl a.2] = [Sum.inr (b.1.map Char.toNat), Sum.inl b.2] := h
  simp only [List.cons.injEq, Sum.inr.injEq, Sum.inl.injEq, and_true] at this
  exact Prod.ext (codes_inj this.1) this.2
theorem srt_srt (rows : List Row) : srt (srt rows) = srt rows := sort_id row_inj (sort_sorted rows)
theorem nms_srt (rows : List Row) : nms (srt rows) = nms rows := by unfold nms; rw [srt_srt]
theorem row_up {a b : Row} (h : upBy rowT a b) : upBy T.str a.1 b.1 := by
  have h : lexA [Sum.inr (b.1.map Char.toNat), Sum.inl b.2] [Sum.inr (a.1.map Char.toNat), Sum.inl a.2] = false := h
  show lexA [Sum.inr (b.1.map Char.toNat)] [Sum.inr (a.1.map Char.toNat)] = false
  cases q : lexA [Sum.inr (b.1.map Char.toNat)] [Sum.inr (a.1.map Char.toNat)] with
  | false => rfl
  | true =>
    rcases lex_cons.mp q with q | ⟨_, q⟩
    · rw [lex_cons.mpr (.inl q)] at h; cases h
    · cases q
theorem nms_sorted (rows : List Row) : (nms rows).Pairwise (upBy T.str) := List.pairwise_map.mpr ((sort_sorted (f := rowT) rows).imp row_up)
theorem sub_sorted {rows : List Row} {l : List Nm} (h : l.Sublist (nms rows)) : sortBy T.str l = l := sort_id str_inj ((nms_sorted rows).sublist h)
theorem nms_perm (rows : List Row) : (nms rows).Perm (rows.map (·.1)) := (sortBy_perm rowT rows).map _
theorem nms_nodup {rows : List Row} (h : Farms rows) : (nms rows).Nodup := (nms_perm rows).nodup_iff.mpr h.nd
theorem nms_len (rows : List Row) : (nms rows).length = rows.length := by rw [(nms_perm rows).length_eq, List.length_map]
theorem nms_mem {rows : List Row} {n : Nm} : n ∈ nms rows ↔ n ∈ rows.map (·.1) := (nms_perm rows).mem_iff
theorem farms_srt {rows : List Row} (h : Farms rows) : Farms (srt rows) := by
  have p := sortBy_perm rowT rows
  exact ⟨fun r hr => h.good r (p.mem_iff.mp hr), fun r hr => h.lo r (p.mem_iff.mp hr), fun r hr => h.hi r (p.mem_iff.mp hr), nms_nodup h, by rw [srt_len]; exact h.len⟩
theorem srt_le {rows : List Row} (h : Farms rows) : (srt rows).length ≤ LINE := by rw [srt_len]; exact Nat.le_trans h.len (by decide)
theorem fst_map (l : List Row) : l.map (fun r => T.str r.1) = (l.map (·.1)).map T.str := by rw [List.map_map]; rfl
/-- unlike names of these -/
structure Joined (rows : List Row) (l : List Nm) : Prop where
  mem : ∀ n ∈ l, n ∈ nms rows
  nd : l.Nodup
theorem nodup_len : ∀ {l r : List Nm}, l.Nodup → (∀ x ∈ l, x ∈ r) → l.length ≤ r.length
  | [], _, _, _ => Nat.zero_le _
  | a :: l, r, nd, h => by
    obtain ⟨h1, h2⟩ := List.nodup_cons.mp nd
    have := nodup_len (r := r.erase a) h2 fun x hx => (List.mem_erase_of_ne (a := x) (b := a) (by intro e; subst e; exact h1 hx)).mpr (h x (List.mem_cons_of_mem _ hx))
    rw [List.length_erase_of_mem (h a (List.mem_cons_self ..))] at this
    have : 0 < r.length := List.length_pos_of_mem (h a (List.mem_cons_self ..))
    simp only [List.length_cons]
    omega
theorem Joined.len {rows : List Row} {l : List Nm} (h : Joined rows l) (hf : Farms rows) : l.length ≤ 40 := by
  have := nodup_len h.nd h.mem
  rw [nms_len] at this
  exact Nat.le_trans this hf.len
theorem Joined.perm {rows : List Row} {l r : List Nm} (h : Joined rows l) (p : l.Perm r) : Joined rows r := ⟨fun n hn => h.mem n (p.mem_iff.mpr hn), p.nodup_iff.mp h.nd⟩
theorem Joined.sub {rows : List Row} {l : List Nm} (hf : Farms rows) (h : l.Sublist (nms rows)) : Joined rows l := ⟨fun n hn => h.subset hn, (nms_nodup hf).sublist h⟩
theorem Joined.srt {rows : List Row} {l : List Nm} (h : Joined rows l) : Joined rows (sortBy T.str l) := h.perm (sortBy_perm T.str l).symm
theorem Joined.of {rows : List Row} {l : List Nm} : Joined (K69.srt rows) l ↔ Joined rows l := by
  constructor <;> intro h
  · exact ⟨fun n hn => by have := h.mem n hn; rwa [nms_srt] at this, h.nd⟩
  · exact ⟨fun n hn => by rw [nms_srt]; exact h.mem n hn, h.nd⟩
theorem up_strs (l : List Nm) : T.upTo 0 (.lst (l.map T.str)) = true := upTos_map fun r _ => rfl
theorem up_args {rows : List Row} {ts : List T} (h : T.upTos 0 ts = true) : T.upTos 0 (.lst (rows.map rowT) :: ts) = true := by
  show (T.upTo 0 (.lst (rows.map rowT)) && T.upTos 0 ts) = true
  rw [up_rows, h]; rfl
theorem up_args2 {rows : List Row} {l : List Nm} {ts : List T} (h : T.upTos 0 ts = true) : T.upTos 0 (.lst (rows.map rowT) :: .lst (l.map T.str) :: ts) = true := by
  refine up_args ?_
  show (T.upTo 0 (.lst (l.map T.str)) && T.upTos 0 ts) = true
  rw [up_strs, h]; rfl
theorem call_fa {k i : Nat} {env : Env} {m : Store} {rows : List Row} (h : Farms rows) (he : env.get i = some (.lst (rows.map rowT))) : eval (Cn (k + 3)) (.callF 4 (.cons (.var i) .nil) []) env m = .ok (.lst ((srt rows).map rowT)) m :=
  c_call0 (r := (.lst ((srt rows).map rowT), false)) (ds_cons (d_var he) ds_nil) (farms_ok k m h)
/-! ### who has joined -/
def known5 : E := .comp [3] (.one 3) (.of (.callF 4 (.cons (.var 0) .nil) [])) (.cst (.bl true)) (.idx (.var 3) (.cst (.int 0)))
def c5a : S := .ite (.cmp .notin (.idx (.var 1) (.var 4)) (.var 2)) (.raise 4 false (.cons (.cst (.str ['n', 'a', 'm', 'e'])) .nil)) (.skip)
def c5b : S := .ite (.cmp .isin (.idx (.var 1) (.var 4)) (.slice (.var 1) (.cst .non) (.var 4))) (.raise 3 false (.cons (.idx (.var 1) (.var 4)) .nil)) (.skip)
def body5 : S := .seq c5a c5b
theorem b5_eq : b5 = .seq (.set 2 known5) (.seq (.for (.one 4) (.rng (.callB .len (.cons (.var 1) .nil))) body5) (.ret (.callB .sorted (.cons (.var 1) .nil)))) := rfl
theorem known_ok {k : Nat} {rows : List Row} {x1 x2 x4 : Option T} {m : Store} (h : Farms rows) : eval (Cn (k + 3)) known5 [some (.lst (rows.map rowT)), x1, x2, none, x4] m = .ok (.lst ((nms rows).map T.str)) m := by
  have e := d_map (C := Cn (k + 3)) (env := [some (.lst (rows.map rowT)), x1, x2, none, x4]) (m := m) (own := [3]) (tg := .one 3) (it := .of (.callF 4 (.cons (.var 0) .nil) [])) (e := .idx (.var 3) (.cst (.int 0))) (l := srt rows) (f := rowT) (v := fun r => .str r.1) (E := fun r => [some (.lst (rows.map rowT)), x1, x2, some (rowT r), x4])
    (d_of (call_fa h rfl)) (fun _ _ => rfl) (fun r _ => rfl) (srt_le h)
  rw [fst_map] at e
  exact e
/-- one name of a list of names -/
theorem at_name {C : Ctx} {env : Env} {m : Store} {i j : Nat} {l : List Nm} {p : Nat} {n : Nm} (hi : env.get i = some (.lst (l.map T.str))) (hj : env.get j = some (.int (p : Int))) (h : l[p]? = some n) : eval C (.idx (.var i) (.var j)) env m = .ok (.str n) m :=
  d_idx (d_var hi) (d_var hj) (idx_map (f := T.str) h)
theorem turn5 {C : Ctx} {rows : List Row} {l : List Nm} {x0 x3 : Option T} {p : Nat} {n : Nm} {m : Store} (hp : l[p]? = some n) (h : Joined rows l) : exec C body5 [x0, some (.lst (l.map T.str)), some (.lst ((nms rows).map T.str)), x3, some (.int (p : Int))] m = .nxt [x0, some (.lst (l.map T.str)), some (.lst ((nms rows).map T.str)), x3, some (.int (p : Int))] m := by
  have hn : n ∈ l := by
    obtain ⟨h1, h2⟩ := List.getElem?_eq_some_iff.mp hp
    rw [← h2]; exact List.getElem_mem h1
  have c1 := s_notin (C := C) (m := m) (at_name (l := l) (env := [x0, some (.lst (l.map T.str)), some (.lst ((nms rows).map T.str)), x3, some (.int (p : Int))]) (i := 1) (j := 4) rfl rfl hp) (d_var (i := 2) (t := .lst ((nms rows).map T.str)) rfl)
  rw [List.contains_iff_mem.mpr (h.mem n hn)] at c1
  have c2 := s_in (C := C) (m := m) (a := .idx (.var 1) (.var 4)) (b := .slice (.var 1) (.cst .non) (.var 4)) (l := l.take p) (at_name (l := l) (env := [x0, some (.lst (l.map T.str)), some (.lst ((nms rows).map T.str)), x3, some (.int (p : Int))]) (i := 1) (j := 4) rfl rfl hp) (by rw [List.map_take]; exact l_take (d_var rfl) (d_var rfl))
  have : (l.take p).contains n = false := by
    rw [List.contains_eq_mem]
    refine decide_eq_false fun hm => ?_
    obtain ⟨j, hj, e⟩ := List.getElem_of_mem hm
    rw [List.length_take] at hj
    obtain ⟨h1, h2⟩ := List.getElem?_eq_some_iff.mp hp
    rw [List.getElem_take, ← h2] at e
    have := (List.getElem_inj h.nd).mp e
    omega
  rw [this] at c2
  unfold body5 c5a c5b
  rw [x_seq (x_ifF c1 rfl)]
  exact x_ifF c2 rfl
theorem joined_ok (k : Nat) (m : Store) {rows : List Row} {l : List Nm} (h : Farms rows) (hj : Joined rows l) : callN P (k + 4) 5 [.lst (rows.map rowT), .lst (l.map T.str)] m = .ok (.lst ((sortBy T.str l).map T.str), false) m := by
  have hl := hj.len h
  refine call_g (i := 5) rfl rfl rfl (up_args2 rfl) (m1 := []) ?_ (up_strs _)
  show exec (Cn (k + 3)) b5 [some (.lst (rows.map rowT)), some (.lst (l.map T.str)), none, none, none] [] = _
  rw [b5_eq, x_seq (x_set (known_ok h))]
  show exec (Cn (k + 3)) _ [some (.lst (rows.map rowT)), some (.lst (l.map T.str)), some (.lst ((nms rows).map T.str)), none, none] [] = _
  obtain ⟨env', m', q, x4, rfl, rfl⟩ := for_all (w := ⟨upFrom 0 l.length, none, false⟩) (f := fun t env m => (Res.ofO ((Tgt.one 4).set m t env) m).out env fun env m => exec (Cn (k + 3)) body5 env m) (I := fun env m' => ∃ x4, env = [some (.lst (rows.map rowT)), some (.lst (l.map T.str)), some (.lst ((nms rows).map T.str)), none, x4] ∧ m' = []) rfl (upFrom 0 l.length) (fun t ht env m0 ⟨x4, he, hm0⟩ => by
    obtain ⟨j, hj1, rfl⟩ := mem_upFrom ht
    subst he; subst hm0
    refine ⟨_, _, ?_, some (.int (0 + j)), rfl, rfl⟩
    have := turn5 (C := Cn (k + 3)) (x0 := some (.lst (rows.map rowT))) (x3 := none) (m := []) (p := j) (List.getElem?_eq_getElem hj1) hj
    rw [Int.zero_add]
    exact this) (env := [some (.lst (rows.map rowT)), some (.lst (l.map T.str)), some (.lst ((nms rows).map T.str)), none, none]) (m := []) ⟨none, rfl, rfl⟩
  have fo : exec (Cn (k + 3)) (.for (.one 4) (.rng (.callB .len (.cons (.var 1) .nil))) body5) [some (.lst (rows.map rowT)), some (.lst (l.map T.str)), some (.lst ((nms rows).map T.str)), none, none] [] = .nxt [some (.lst (rows.map rowT)), some (.lst (l.map T.str)), some (.lst ((nms rows).map T.str)), none, x4] [] := by
    rw [ex_for, r_one (len_map (l := l) (f := T.str) (d_var rfl)) (by omega) (by omega), Res.out_ok]
    exact q
  rw [x_seq fo]
  exact x_ret (d_sortS (d_var rfl) (by omega))
end K69
end

section
set_option Elab.async false
set_option linter.all false
set_option maxRecDepth 100000
set_option maxHeartbeats 0
namespace K69
open MP
open MP (S E T EL It)
/-! ### who would join -/
def sees (lot : List Nm) (n : Nm) : Int := (lot.length : Int) - if lot.contains n then 1 else 0
def wd (rows : List Row) (lot : List Nm) : List Nm := ((srt rows).filter fun r => decide (r.2 ≤ sees lot r.1)).map (·.1)
theorem wd_sub (rows : List Row) (lot : List Nm) : (wd rows lot).Sublist (nms rows) := List.filter_sublist.map _
theorem sees_perm {l r : List Nm} (p : l.Perm r) (n : Nm) : sees l n = sees r n := by
  unfold sees
  rw [p.length_eq]
  have : l.contains n = r.contains n := by
    rw [List.contains_eq_mem, List.contains_eq_mem]
    exact decide_eq_decide.mpr p.mem_iff
  rw [this]
theorem wd_perm {rows : List Row} {l r : List Nm} (p : l.Perm r) : wd rows l = wd rows r := by
  unfold wd
  congr 2
  funext x
  rw [sees_perm p]
theorem wd_srt (rows : List Row) (l : List Nm) : wd (srt rows) l = wd rows l := by unfold wd; rw [srt_srt]
theorem would_ok (k : Nat) (m : Store) {rows : List Row} {l : List Nm} (h : Farms rows) (hj : Joined rows l) : callN P (k + 5) 6 [.lst (rows.map rowT), .lst (l.map T.str)] m = .ok (.lst ((wd rows l).map T.str), false) m := by
  refine call_g (i := 6) rfl rfl rfl (up_args2 rfl) (m1 := []) ?_ (up_strs _)
  show exec (Cn (k + 4)) b6 [some (.lst (rows.map rowT)), some (.lst (l.map T.str)), none, none, none] [] = _
  unfold b6
  rw [x_seq (x_set (c_call0 (r := (.lst ((sortBy T.str l).map T.str), false)) (ds_cons (d_var rfl) (ds_cons (d_var rfl) ds_nil)) (joined_ok k [] h hj)))]
  show exec (Cn (k + 4)) _ [some (.lst (rows.map rowT)), some (.lst (l.map T.str)), some (.lst ((sortBy T.str l).map T.str)), none, none] [] = _
  refine x_ret ?_
  have e := d_comp (C := Cn (k + 4)) (env := [some (.lst (rows.map rowT)), some (.lst (l.map T.str)), some (.lst ((sortBy T.str l).map T.str)), none, none]) (m := []) (own := [3, 4]) (tg := .many [3, 4]) (it := .of (.callF 4 (.cons (.var 0) .nil) [])) (c := .cmp .ge (.bin .sub (.callB .len (.cons (.var 2) .nil)) (.ite (.cmp .isin (.var 3) (.var 2)) (.cst (.int 1)) (.cst (.int 0)))) (.var 4)) (e := .var 3) (l := srt rows) (f := rowT) (v := fun r => .str r.1) (p := fun r => decide (r.2 ≤ sees (sortBy T.str l) r.1)) (d := false) (E := fun r => [some (.lst (rows.map rowT)), some (.lst (l.map T.str)), some (.lst ((sortBy T.str l).map T.str)), some (.str r.1), some (.int r.2)])
    (d_of (call_fa h rfl)) (fun _ _ => rfl) (fun r _ => i_ge (d_sub (len_map (l := sortBy T.str l) (f := T.str) (d_var rfl)) (d_ite (y := .int (if (sortBy T.str l).contains r.1 then 1 else 0)) (s_in (d_var rfl) (d_var rfl)) rfl (by cases (sortBy T.str l).contains r.1 <;> rfl))) (d_var rfl)) (fun r _ _ => d_var rfl) (srt_le h)
  rw [fst_map] at e
  rw [e]
  show Res.ok (T.lst ((wd rows (sortBy T.str l)).map T.str)) [] = _
  rw [wd_perm (sortBy_perm T.str l)]
/-- .. as the law says it -/
theorem others_len {l : List Nm} (h : l.Nodup) (n : Nm) : ((l.filter fun x => !(x == n)).length : Int) = sees l n := by
  unfold sees
  have e : l.filter (fun x => !(x == n)) = l.erase n := by
    rw [List.Nodup.erase_eq_filter h]
    rfl
  rw [e, List.length_erase]
  by_cases hm : n ∈ l
  · have := List.length_pos_of_mem hm
    rw [if_pos hm, if_pos (List.contains_iff_mem.mpr hm)]
    omega
  · rw [if_neg hm, if_neg (fun q => hm (List.contains_iff_mem.mp q))]
    omega
theorem lawwould_ok (k : Nat) (m : Store) {rows : List Row} {l : List Nm} (h : Farms rows) (hj : Joined rows l) : callN P (k + 1) 18 [.lst ((srt rows).map rowT), .lst (l.map T.str)] m = .ok (.lst ((wd rows l).map T.str), false) m := by
  refine call_g (i := 18) rfl rfl rfl (up_args2 rfl) (m1 := []) ?_ (up_strs _)
  show exec (Cn k) b18 [some (.lst ((srt rows).map rowT)), some (.lst (l.map T.str)), none, none] [] = _
  unfold b18
  refine x_ret ?_
  have hl : l.length ≤ LINE := Nat.le_trans (hj.len h) (by decide)
  have inn : ∀ r : Row, eval (Cn k) (.callB .len (.cons (.comp [3] (.one 3) (.of (.var 1)) (.cmp .ne (.var 3) (.idx (.var 2) (.cst (.int 0)))) (.var 3)) .nil)) [some (.lst ((srt rows).map rowT)), some (.lst (l.map T.str)), some (rowT r), none] [] = .ok (.int (sees l r.1)) [] := fun r => by
    have e := d_comp (C := Cn k) (env := [some (.lst ((srt rows).map rowT)), some (.lst (l.map T.str)), some (rowT r), none]) (m := []) (own := [3]) (tg := .one 3) (it := .of (.var 1)) (c := .cmp .ne (.var 3) (.idx (.var 2) (.cst (.int 0)))) (e := .var 3) (l := l) (f := T.str) (v := T.str) (p := fun x => !(x == r.1)) (d := false) (E := fun x => [some (.lst ((srt rows).map rowT)), some (.lst (l.map T.str)), some (rowT r), some (.str x)])
      (d_of (d_var rfl)) (fun _ _ => rfl) (fun x _ => s_ne (d_var rfl) rfl) (fun x _ _ => d_var rfl) hl
    have e2 := len_map e
    rwa [others_len hj.nd] at e2
  have e := d_comp (C := Cn k) (env := [some (.lst ((srt rows).map rowT)), some (.lst (l.map T.str)), none, none]) (m := []) (own := [2]) (tg := .one 2) (it := .of (.var 0)) (c := .cmp .ge (.callB .len (.cons (.comp [3] (.one 3) (.of (.var 1)) (.cmp .ne (.var 3) (.idx (.var 2) (.cst (.int 0)))) (.var 3)) .nil)) (.idx (.var 2) (.cst (.int 1)))) (e := .idx (.var 2) (.cst (.int 0))) (l := srt rows) (f := rowT) (v := fun r => .str r.1) (p := fun r => decide (r.2 ≤ sees l r.1)) (d := false) (E := fun r => [some (.lst ((srt rows).map rowT)), some (.lst (l.map T.str)), some (rowT r), none])
    (d_of (d_var rfl)) (fun _ _ => rfl) (fun r _ => i_ge (inn r) rfl) (fun r _ _ => rfl) (srt_le h)
  rw [fst_map] at e
  exact e
end K69
end

section
set_option Elab.async false
set_option linter.all false
set_option maxRecDepth 100000
set_option maxHeartbeats 0
namespace K69
open MP
open MP (S E T EL It)
/-! ### rounds -/
/-- the rounds from `cur` on, behind `done` -/
def walk (rows : List Row) : Nat → List (List Nm) → List Nm → Option (List (List Nm))
  | 0, _, _ => none
  | n + 1, done, cur => if wd rows cur == cur then some (done ++ [cur]) else if (done ++ [cur]).contains (wd rows cur) then none else walk rows n (done ++ [cur]) (wd rows cur)
structure Way (rows : List Row) (done : List (List Nm)) (cur : List Nm) : Prop where
  nd : (done ++ [cur]).Nodup
  sub : ∀ x ∈ done ++ [cur], x.Sublist (nms rows)
variable {rows : List Row} {done : List (List Nm)} {cur : List Nm}
theorem Way.len (h : Way rows done cur) (h6 : rows.length ≤ 6) : done.length + 1 ≤ 64 := by
  have := few_sub h.nd h.sub
  rw [nms_len, List.length_append] at this
  have p : 2 ^ rows.length ≤ 2 ^ 6 := Nat.pow_le_pow_right (by decide) h6
  simp only [List.length_singleton] at this
  omega
theorem Way.last (h : Way rows done cur) : cur.Sublist (nms rows) := h.sub _ (List.mem_append_right _ (List.mem_singleton.mpr rfl))
theorem Way.next (h : Way rows done cur) (hn : (done ++ [cur]).contains (wd rows cur) = false) : Way rows (done ++ [cur]) (wd rows cur) := by
  refine ⟨List.nodup_append.mpr ⟨h.nd, by simp, fun a ha b hb e => ?_⟩, fun x hx => ?_⟩
  · rw [List.mem_singleton.mp hb] at e
    rw [List.contains_eq_mem] at hn
    exact of_decide_eq_false hn (e ▸ ha)
  · rcases List.mem_append.mp hx with hx | hx
    · exact h.sub x hx
    · rw [List.mem_singleton.mp hx]; exact wd_sub _ _
def cellL (f : List (List Nm)) : Cell := .lst (f.map LS)
theorem cell_last (done : List (List Nm)) (cur : List Nm) : (done ++ [cur]).map LS = done.map LS ++ [LS cur] := by rw [List.map_append]; rfl
/-! the law's rounds -/
def last21 : E := .idx (.var 2) (.bin .sub (.callB .len (.cons (.var 2) .nil)) (.cst (.int 1)))
def body21 : S := .seq (.set 4 (.callF 18 (.cons (.var 0) (.cons last21 .nil)) [])) (.seq (.ite (.cmp .eq (.var 4) last21) (.retMove 2) (.skip)) (.seq (.ite (.cmp .isin (.var 4) (.var 2)) (.ret (.cst (.non))) (.skip)) (.expr (.mut .append (.var 2) (.cons (.var 4) .nil)))))
theorem b21_eq : b21 = .seq (.setBox 2 (.list (.cons (.callB .sorted (.cons (.var 1) .nil)) .nil))) (.seq (.for (.one 3) (.rng (.cst (.int 200))) body21) (.ret (.cst (.non)))) := rfl
theorem last21_ok {C : Ctx} {env : Env} (h2 : env.get 2 = some (.obj 0)) (done : List (List Nm)) (cur : List Nm) : eval C last21 env [cellL (done ++ [cur])] = .ok (LS cur) [cellL (done ++ [cur])] := by
  unfold last21
  refine idx_cell (m := [cellL (done ++ [cur])]) h2 (d_sub (len_cell (n := 0) (xs := (done ++ [cur]).map LS) h2 rfl) ev_cst) (show [cellL (done ++ [cur])][0]? = some (.lst ((done ++ [cur]).map LS)) from rfl) ?_
  rw [cell_last]
  refine idx_end ?_
  simp
theorem set4_ok {k : Nat} {x1 x3 x4 : Option T} (h : Farms rows) (hw : Way rows done cur) : exec (Cn (k + 1)) (.set 4 (.callF 18 (.cons (.var 0) (.cons last21 .nil)) [])) [some (.lst ((srt rows).map rowT)), x1, some (.obj 0), x3, x4] [cellL (done ++ [cur])] = .nxt [some (.lst ((srt rows).map rowT)), x1, some (.obj 0), x3, some (LS (wd rows cur))] [cellL (done ++ [cur])] :=
  x_set (c_call0 (r := (.lst ((wd rows cur).map T.str), false)) (ds_cons (d_var rfl) (ds_cons (last21_ok rfl done cur) ds_nil)) (lawwould_ok k _ h (Joined.sub h hw.last)))
theorem loop21 {k : Nat} {w : Walk} (hwk : w.at? = none) (h : Farms rows) (h6 : rows.length ≤ 6) {x1 : Option T} : ∀ (n : Nat) (done : List (List Nm)) (cur : List Nm) (ts : List T) (x3 x4 : Option T), Way rows done cur → n ≤ ts.length → 65 ≤ n + done.length →
    ∃ m', forLoop w (fun t env m => (Res.ofO ((Tgt.one 3).set m t env) m).out env fun env m => exec (Cn (k + 1)) body21 env m) ts [some (.lst ((srt rows).map rowT)), x1, some (.obj 0), x3, x4] [cellL (done ++ [cur])] = match walk rows n done cur with | some f => .ret (.lst (f.map LS)) true m' | none => .ret .non false m'
  | 0, done, cur, ts, x3, x4, hw, _, hb => absurd (hw.len h6) (by omega)
  | n + 1, done, cur, [], x3, x4, hw, hl, _ => absurd hl (by simp)
  | n + 1, done, cur, t :: ts, x3, x4, hw, hl, hb => by
    conv => enter [1, m', 1]; unfold forLoop
    rw [if_pos (wok_none hwk)]
    have e0 : (Res.ofO ((Tgt.one 3).set [cellL (done ++ [cur])] t [some (.lst ((srt rows).map rowT)), x1, some (.obj 0), x3, x4]) [cellL (done ++ [cur])]).out [some (.lst ((srt rows).map rowT)), x1, some (.obj 0), x3, x4] (fun env m => exec (Cn (k + 1)) body21 env m) = exec (Cn (k + 1)) body21 [some (.lst ((srt rows).map rowT)), x1, some (.obj 0), some t, x4] [cellL (done ++ [cur])] := rfl
    rw [e0]
    unfold body21
    rw [x_seq (set4_ok h hw)]
    have c1 := ls_eq (C := Cn (k + 1)) (d_var (i := 4) (env := [some (.lst ((srt rows).map rowT)), x1, some (.obj 0), some t, some (LS (wd rows cur))]) (m := [cellL (done ++ [cur])]) rfl) (last21_ok (C := Cn (k + 1)) rfl done cur)
    have c2 := ls_in_cell (C := Cn (k + 1)) (i := 2) (n := 0) (l := done ++ [cur]) (d_var (i := 4) (env := [some (.lst ((srt rows).map rowT)), x1, some (.obj 0), some t, some (LS (wd rows cur))]) (m := [cellL (done ++ [cur])]) rfl) rfl rfl
    unfold walk
    cases q1 : wd rows cur == cur with
    | true =>
      rw [q1] at c1
      rw [x_seqR (t := .lst ((done ++ [cur]).map LS)) (n := true) (m1 := [.dead]) (by rw [x_iteT (d_test c1 rfl)]; rfl)]
      exact ⟨_, rfl⟩
    | false =>
      rw [q1] at c1
      rw [x_seq (x_ifF c1 rfl)]
      cases q2 : (done ++ [cur]).contains (wd rows cur) with
      | true =>
        rw [q2] at c2
        rw [x_seqR (t := .non) (n := false) (m1 := [cellL (done ++ [cur])]) (by rw [x_iteT (d_test c2 rfl)]; rfl)]
        exact ⟨_, rfl⟩
      | false =>
        rw [q2] at c2
        rw [x_seq (x_ifF c2 rfl)]
        have := hw.len h6
        rw [x_append (n := 0) (xs := (done ++ [cur]).map LS) (t := LS (wd rows cur)) rfl rfl (d_var rfl) (by rw [List.length_map, List.length_append, List.length_singleton]; exact Nat.lt_of_le_of_lt this (by decide))]
        have e1 : [cellL (done ++ [cur])].set 0 (.lst ((done ++ [cur]).map LS ++ [LS (wd rows cur)])) = [cellL ((done ++ [cur]) ++ [wd rows cur])] := by
          show [Cell.lst _] = [cellL _]
          unfold cellL
          rw [cell_last (done ++ [cur])]
        rw [e1]
        obtain ⟨m', q⟩ := loop21 (k := k) hwk h h6 (x1 := x1) n (done ++ [cur]) (wd rows cur) ts (some t) (some (LS (wd rows cur))) (hw.next q2) (by simpa using hl) (by rw [List.length_append, List.length_singleton]; omega)
        exact ⟨m', q⟩
end K69
end

section
set_option Elab.async false
set_option linter.all false
set_option maxRecDepth 100000
set_option maxHeartbeats 0
namespace K69
open MP
open MP (S E T EL It)
def rnd (rows : List Row) (start : List Nm) : Option (List (List Nm)) := walk rows 65 [] start
def rT : Option (List (List Nm)) → T
  | some f => .lst (f.map LS)
  | none => .non
theorem up_lots (f : List (List Nm)) : T.upTo 0 (.lst (f.map LS)) = true := upTos_map fun l _ => up_strs l
theorem Way.start {rows : List Row} {s : List Nm} (h : s.Sublist (nms rows)) : Way rows [] s := ⟨by simp, fun x hx => by rw [List.nil_append, List.mem_singleton] at hx; rw [hx]; exact h⟩
theorem rounds_ok (k : Nat) (m : Store) {rows : List Row} {s : List Nm} (h : Farms rows) (h6 : rows.length ≤ 6) (hs : s.Sublist (nms rows)) : callN P (k + 2) 21 [.lst ((srt rows).map rowT), LS s] m = .ok (rT (rnd rows s), (rnd rows s).isSome) m := by
  have hj := Joined.sub h hs
  have hl := hj.len h
  have key : ∃ m', exec (Cn (k + 1)) b21 [some (.lst ((srt rows).map rowT)), some (LS s), none, none, none] [] = .ret (rT (rnd rows s)) (rnd rows s).isSome m' := by
    rw [b21_eq]
    have a0 : exec (Cn (k + 1)) (.setBox 2 (.list (.cons (.callB .sorted (.cons (.var 1) .nil)) .nil))) [some (.lst ((srt rows).map rowT)), some (LS s), none, none, none] [] = .nxt [some (.lst ((srt rows).map rowT)), some (LS s), some (.obj 0), none, none] [cellL ([] ++ [s])] := by
      refine d_setBox (t := .lst [LS s]) (m1 := []) ?_ rfl
      have e := d_sortS (C := Cn (k + 1)) (m := []) (d_var (i := 1) (t := LS s) (env := [some (.lst ((srt rows).map rowT)), some (LS s), none, none, none]) rfl) (by omega)
      rw [sub_sorted hs] at e
      exact n_list (ds_cons e ds_nil) (show 1 ≤ LINE by decide)
    rw [x_seq a0]
    obtain ⟨m', q⟩ := loop21 (k := k) (w := ⟨upFrom 0 200, none, false⟩) rfl h h6 (x1 := some (LS s)) 65 [] s (upFrom 0 200) none none (Way.start hs) (by rw [upFrom_len]; decide) (by simp)
    have q' : exec (Cn (k + 1)) (.for (.one 3) (.rng (.cst (.int 200))) body21) [some (.lst ((srt rows).map rowT)), some (LS s), some (.obj 0), none, none] [cellL ([] ++ [s])] = match walk rows 65 [] s with | some f => .ret (.lst (f.map LS)) true m' | none => .ret .non false m' := by
      rw [ex_for, r_one ev_cst (by decide) (by decide), Res.out_ok]
      exact q
    refine ⟨m', ?_⟩
    unfold rnd
    cases hw : walk rows 65 [] s with
    | some f => rw [hw] at q'; exact x_seqR q'
    | none => rw [hw] at q'; exact x_seqR q'
  obtain ⟨m', q⟩ := key
  refine call_g (i := 21) rfl rfl rfl (up_args2 rfl) (m1 := m') q ?_
  cases rnd rows s with
  | some f => exact up_lots f
  | none => rfl
/-! the program's rounds -/
def test7 : E := .cmp .ne (.var 3) (.idx (.var 2) (.neg (.cst (.int 1))))
def if7 : S := .ite (.or (.cmp .gt (.callB .len (.cons (.var 2) .nil)) (.cst (.int 80))) (.cmp .isin (.var 3) (.var 2))) (.raise 6 false (.cons (.cst (.str ['i', 't', ' ', 't', 'u', 'r', 'n', 's'])) .nil)) (.skip)
def body7 : S := .seq if7 (.seq (.expr (.mut .append (.var 2) (.cons (.var 3) .nil))) (.set 3 (.callF 6 (.cons (.var 0) (.cons (.var 3) .nil)) [])))
theorem b7_eq : b7 = .seq (.setBox 2 (.list (.cons (.callF 5 (.cons (.var 0) (.cons (.var 1) .nil)) []) .nil))) (.seq (.set 3 (.callF 6 (.cons (.var 0) (.cons (.idx (.var 2) (.cst (.int 0))) .nil)) [])) (.seq (.while test7 body7) (.retMove 2))) := rfl
variable {rows : List Row} {done : List (List Nm)} {cur : List Nm}
abbrev ev7 (rows : List Row) (l t : List Nm) : Env := [some (.lst (rows.map rowT)), some (LS l), some (.obj 0), some (LS t)]
theorem test7_ok {C : Ctx} {l t : List Nm} (done : List (List Nm)) (cur : List Nm) : test C test7 (ev7 rows l t) [cellL (done ++ [cur])] = .ok (!(t == cur)) [cellL (done ++ [cur])] := by
  have e : eval C (.idx (.var 2) (.neg (.cst (.int 1)))) (ev7 rows l t) [cellL (done ++ [cur])] = .ok (LS cur) [cellL (done ++ [cur])] := by
    refine idx_cell (m := [cellL (done ++ [cur])]) (n := 0) (y := .int (-1)) (xs := (done ++ [cur]).map LS) rfl rfl rfl ?_
    rw [cell_last]
    exact idx_last
  exact d_test (ls_ne (d_var rfl) e) rfl
theorem loop7 {k : Nat} (h : Farms rows) (h6 : rows.length ≤ 6) {l : List Nm} : ∀ (n : Nat) (done : List (List Nm)) (cur : List Nm) (f : Nat), Way rows done cur → n < f → 65 ≤ n + done.length →
    ∃ env' m', whileLoop (fun env m => test (Cn (k + 5)) test7 env m) (fun env m => exec (Cn (k + 5)) body7 env m) f (ev7 rows l (wd rows cur)) [cellL (done ++ [cur])] = (match walk rows n done cur with | some f => .nxt env' [cellL f] | none => .exc 6 [] env' m') ∧ env'.get 2 = some (.obj 0)
  | 0, done, cur, f, hw, _, hb => absurd (hw.len h6) (by omega)
  | n + 1, done, cur, 0, hw, hl, _ => absurd hl (by omega)
  | n + 1, done, cur, f + 1, hw, hl, hb => by
    have hlen := hw.len h6
    conv => enter [1, env', 1, m', 1, 1]; unfold whileLoop
    simp only [test7_ok done cur, Res.out_ok]
    unfold walk
    cases q1 : wd rows cur == cur with
    | true => exact ⟨ev7 rows l (wd rows cur), [], rfl, rfl⟩
    | false =>
      have c0 : eval (Cn (k + 5)) (.cmp .gt (.callB .len (.cons (.var 2) .nil)) (.cst (.int 80))) (ev7 rows l (wd rows cur)) [cellL (done ++ [cur])] = .ok (.bl false) [cellL (done ++ [cur])] := by
        have := i_gt (C := Cn (k + 5)) (len_cell (C := Cn (k + 5)) (env := ev7 rows l (wd rows cur)) (m := [cellL (done ++ [cur])]) (i := 2) (n := 0) (xs := (done ++ [cur]).map LS) rfl rfl) (ev_cst (t := .int 80))
        rw [decide_eq_false (by rw [List.length_map, List.length_append, List.length_singleton]; omega)] at this
        exact this
      have c2 := ls_in_cell (C := Cn (k + 5)) (i := 2) (n := 0) (l := done ++ [cur]) (d_var (i := 3) (env := ev7 rows l (wd rows cur)) (m := [cellL (done ++ [cur])]) rfl) rfl rfl
      cases q2 : (done ++ [cur]).contains (wd rows cur) with
      | true =>
        rw [q2] at c2
        refine ⟨ev7 rows l (wd rows cur), [cellL (done ++ [cur])], ?_, rfl⟩
        have e : exec (Cn (k + 5)) body7 (ev7 rows l (wd rows cur)) [cellL (done ++ [cur])] = .exc 6 [] (ev7 rows l (wd rows cur)) [cellL (done ++ [cur])] := by
          unfold body7 if7
          exact x_seqX (by rw [x_iteT (d_test (d_orF c0 rfl c2) rfl)]; exact x_raise ev_cst)
        rw [e]; rfl
      | false =>
        rw [q2] at c2
        have e : exec (Cn (k + 5)) body7 (ev7 rows l (wd rows cur)) [cellL (done ++ [cur])] = .nxt (ev7 rows l (wd rows (wd rows cur))) [cellL ((done ++ [cur]) ++ [wd rows cur])] := by
          unfold body7 if7
          rw [x_seq (x_ifF (d_orF c0 rfl c2) rfl)]
          rw [x_seq (x_append (n := 0) (xs := (done ++ [cur]).map LS) (t := LS (wd rows cur)) rfl rfl (d_var rfl) (by rw [List.length_map, List.length_append, List.length_singleton]; exact Nat.lt_of_le_of_lt hlen (by decide)))]
          have e1 : [cellL (done ++ [cur])].set 0 (.lst ((done ++ [cur]).map LS ++ [LS (wd rows cur)])) = [cellL ((done ++ [cur]) ++ [wd rows cur])] := by
            show [Cell.lst _] = [cellL _]
            unfold cellL
            rw [cell_last (done ++ [cur])]
          rw [e1]
          exact x_set (c_call0 (r := (.lst ((wd rows (wd rows cur)).map T.str), false)) (ds_cons (d_var rfl) (ds_cons (d_var rfl) ds_nil)) (would_ok k _ h (Joined.sub h (wd_sub _ _))))
        obtain ⟨env', m', q, g⟩ := loop7 (k := k) h h6 (l := l) n (done ++ [cur]) (wd rows cur) f (hw.next q2) (by omega) (by rw [List.length_append, List.length_singleton]; omega)
        refine ⟨env', m', ?_, g⟩
        rw [e]
        exact q
theorem steps_run {k : Nat} {l : List Nm} (h : Farms rows) (h6 : rows.length ≤ 6) (hj : Joined rows l) (hs : (sortBy T.str l).Sublist (nms rows)) :
    ∃ env' m', exec (Cn (k + 5)) b7 [some (.lst (rows.map rowT)), some (LS l), none, none] [] = match rnd rows (sortBy T.str l) with | some f => .ret (.lst (f.map LS)) true m' | none => .exc 6 [] env' m' := by
  rw [b7_eq]
  have a0 : exec (Cn (k + 5)) (.setBox 2 (.list (.cons (.callF 5 (.cons (.var 0) (.cons (.var 1) .nil)) []) .nil))) [some (.lst (rows.map rowT)), some (LS l), none, none] [] = .nxt [some (.lst (rows.map rowT)), some (LS l), some (.obj 0), none] [cellL ([] ++ [sortBy T.str l])] := by
    refine d_setBox (t := .lst [LS (sortBy T.str l)]) (m1 := []) ?_ rfl
    have e := c_call0 (P := P) (k := k + 5) (f := 5) (env := [some (.lst (rows.map rowT)), some (LS l), none, none]) (m := []) (args := .cons (.var 0) (.cons (.var 1) .nil)) (r := (.lst ((sortBy T.str l).map T.str), false)) (ds_cons (d_var rfl) (ds_cons (d_var rfl) ds_nil)) (joined_ok (k + 1) [] h hj)
    exact n_list (ds_cons e ds_nil) (show 1 ≤ LINE by decide)
  rw [x_seq a0]
  have a1 : exec (Cn (k + 5)) (.set 3 (.callF 6 (.cons (.var 0) (.cons (.idx (.var 2) (.cst (.int 0))) .nil)) [])) [some (.lst (rows.map rowT)), some (LS l), some (.obj 0), none] [cellL ([] ++ [sortBy T.str l])] = .nxt (ev7 rows l (wd rows (sortBy T.str l))) [cellL ([] ++ [sortBy T.str l])] :=
    x_set (c_call0 (r := (.lst ((wd rows (sortBy T.str l)).map T.str), false)) (ds_cons (d_var rfl) (ds_cons (idx_cell (n := 0) (y := .int 0) (z := LS (sortBy T.str l)) (xs := [LS (sortBy T.str l)]) rfl ev_cst rfl rfl) ds_nil)) (would_ok k _ h (Joined.sub h hs)))
  rw [x_seq a1]
  obtain ⟨env', m', q, g⟩ := loop7 (k := k) h h6 (l := l) 65 [] (sortBy T.str l) 100000 (Way.start hs) (by decide) (by simp)
  have q' : exec (Cn (k + 5)) (.while test7 body7) (ev7 rows l (wd rows (sortBy T.str l))) [cellL ([] ++ [sortBy T.str l])] = match walk rows 65 [] (sortBy T.str l) with | some f => .nxt env' [cellL f] | none => .exc 6 [] env' m' := q
  unfold rnd
  cases hw : walk rows 65 [] (sortBy T.str l) with
  | some f =>
    rw [hw] at q'
    refine ⟨env', [.dead], ?_⟩
    rw [x_seq q']
    show (match env'.get 2 with | some (.obj n) => (match ([cellL f][n]?).bind Cell.tree with | some t => Out.ret t true ([cellL f].set n .dead) | none => .stuck) | some t => .ret t false [cellL f] | none => .stuck) = _
    rw [g]; rfl
  | none =>
    rw [hw] at q'
    exact ⟨env', m', x_seqX q'⟩
theorem steps_some (k : Nat) (m : Store) {l : List Nm} (h : Farms rows) (h6 : rows.length ≤ 6) (hj : Joined rows l) (hs : (sortBy T.str l).Sublist (nms rows)) {f : List (List Nm)} (hf : rnd rows (sortBy T.str l) = some f) : callN P (k + 6) 7 [.lst (rows.map rowT), LS l] m = .ok (.lst (f.map LS), true) m := by
  obtain ⟨env', m', q⟩ := steps_run (k := k) h h6 hj hs
  rw [hf] at q
  exact call_g (i := 7) rfl rfl rfl (up_args2 rfl) (m1 := m') q (up_lots f)
theorem steps_none (k : Nat) (m : Store) {l : List Nm} (h : Farms rows) (h6 : rows.length ≤ 6) (hj : Joined rows l) (hs : (sortBy T.str l).Sublist (nms rows)) (hf : rnd rows (sortBy T.str l) = none) : callN P (k + 6) 7 [.lst (rows.map rowT), LS l] m = .exc 6 [] m := by
  obtain ⟨env', m', q⟩ := steps_run (k := k) h h6 hj hs
  rw [hf] at q
  exact call_gx (i := 7) rfl rfl rfl (up_args2 rfl) (m1 := m') (env := env') q
end K69
end

section
set_option Elab.async false
set_option linter.all false
set_option maxRecDepth 100000
set_option maxHeartbeats 0
namespace K69
open MP
open MP (S E T EL It)
/-! ### lots -/
def body19 : S := .set 1 (.bin .add (.var 1) (.comp [3] (.one 3) (.of (.var 1)) (.cst (.bl true)) (.bin .add (.var 3) (.list (.cons (.var 2) .nil)))))
theorem b19_eq : b19 = .seq (.set 1 (.list (.cons (.list (.nil)) .nil))) (.seq (.for (.one 2) (.of (.var 0)) body19) (.ret (.var 1))) := rfl
theorem turn19 {C : Ctx} {m : Store} {x0 : Option T} {acc : List (List Nm)} {a : Nm} (h1 : acc.length + acc.length ≤ LINE) (h2 : ∀ x ∈ acc, x.length < 100) : exec C body19 [x0, some (.lst (acc.map LS)), some (.str a), none] m = .nxt [x0, some (.lst ((acc ++ acc.map (· ++ [a])).map LS)), some (.str a), none] m := by
  unfold body19
  refine x_set ?_
  have e := d_map (C := C) (env := [x0, some (.lst (acc.map LS)), some (.str a), none]) (m := m) (own := [3]) (tg := .one 3) (it := .of (.var 1)) (e := .bin .add (.var 3) (.list (.cons (.var 2) .nil))) (l := acc) (f := LS) (v := fun l => LS (l ++ [a])) (E := fun l => [x0, some (.lst (acc.map LS)), some (.str a), some (LS l)])
    (d_of (d_var rfl)) (fun _ _ => rfl) (fun l hl => by
      have := l_add (C := C) (m := m) (env := [x0, some (.lst (acc.map LS)), some (.str a), some (LS l)]) (a := .var 3) (b := .list (.cons (.var 2) .nil)) (xs := l.map T.str) (ys := [.str a]) (d_var rfl) (v_list (ds_cons (d_var rfl) ds_nil) (show 1 ≤ LINE by decide)) (by
        have := h2 l hl
        rw [List.length_map, List.length_singleton]; exact Nat.le_trans (show l.length + 1 ≤ 100 by omega) (by decide))
      rw [this]
      show _ = Res.ok (T.lst ((l ++ [a]).map T.str)) m
      rw [List.map_append]; rfl) (Nat.le_trans (Nat.le_add_right _ _) h1)
  have := l_add (C := C) (m := m) (d_var (i := 1) (env := [x0, some (.lst (acc.map LS)), some (.str a), none]) (t := .lst (acc.map LS)) rfl) e (by rw [List.length_map, List.length_map]; exact h1)
  rw [this, List.map_append, List.map_map]; rfl
theorem loop19 {C : Ctx} {m : Store} {x0 : Option T} {w : Walk} (hw : w.at? = none) : ∀ (l : List Nm) (acc : List (List Nm)) (x2 : Option T), acc.length * 2 ^ l.length ≤ LINE → (∀ x ∈ acc, x.length + l.length ≤ 100) →
    ∃ y2, forLoop w (fun t env m => (Res.ofO ((Tgt.one 2).set m t env) m).out env fun env m => exec C body19 env m) (l.map T.str) [x0, some (.lst (acc.map LS)), x2, none] m = .nxt [x0, some (.lst ((lotsA acc l).map LS)), y2, none] m
  | [], acc, x2, _, _ => ⟨x2, by rw [List.map_nil]; unfold forLoop; rw [if_pos (wok_none hw)]; rfl⟩
  | a :: l, acc, x2, h1, h2 => by
    have h1' : acc.length * (2 ^ l.length * 2) ≤ LINE := h1
    have hp : 1 ≤ 2 ^ l.length := Nat.one_le_two_pow
    obtain ⟨y2, q⟩ := loop19 (C := C) (m := m) (x0 := x0) hw l (acc ++ acc.map (· ++ [a])) (some (.str a)) (by
      rw [List.length_append, List.length_map, ← Nat.mul_two, Nat.mul_assoc, Nat.mul_comm 2]; exact h1') (fun x hx => by
      rcases List.mem_append.mp hx with hx | hx
      · have := h2 x hx; simp only [List.length_cons] at this; omega
      · obtain ⟨y, hy, rfl⟩ := List.mem_map.mp hx
        have := h2 y hy
        simp only [List.length_cons] at this
        rw [List.length_append, List.length_singleton]; omega)
    refine ⟨y2, ?_⟩
    rw [List.map_cons, forL_nxt hw (e1 := [x0, some (.lst ((acc ++ acc.map (· ++ [a])).map LS)), some (.str a), none]) (m1 := m)]
    · exact q
    · refine turn19 ?_ fun x hx => by have := h2 x hx; simp only [List.length_cons] at this; omega
      have : acc.length * 2 ≤ acc.length * (2 ^ l.length * 2) := Nat.mul_le_mul_left _ (by omega)
      omega
theorem lots_ok (k : Nat) (m : Store) {l : List Nm} (h : l.length ≤ 6) : callN P (k + 1) 19 [LS l] m = .ok (.lst ((lots l).map LS), false) m := by
  refine call_g (i := 19) rfl rfl rfl (by show (T.upTo 0 (LS l) && true) = true; rw [up_strs]; rfl) (m1 := []) ?_ (up_lots _)
  show exec (Cn k) b19 [some (LS l), none, none, none] [] = _
  rw [b19_eq, x_seq (show exec (Cn k) (.set 1 (.list (.cons (.list (.nil)) .nil))) [some (LS l), none, none, none] [] = .nxt [some (LS l), some (.lst (([[]] : List (List Nm)).map LS)), none, none] [] from rfl)]
  obtain ⟨y2, q⟩ := loop19 (C := Cn k) (m := []) (x0 := some (LS l)) (w := ⟨l.map T.str, none, false⟩) rfl l [[]] none (by
    have : 2 ^ l.length ≤ 2 ^ 6 := Nat.pow_le_pow_right (by decide) h
    have : 2 ^ 6 ≤ LINE := by decide
    simp only [List.length_singleton]; omega) (fun x hx => by rw [List.mem_singleton.mp hx]; simp; omega)
  have q' : exec (Cn k) (.for (.one 2) (.of (.var 0)) body19) [some (LS l), some (.lst (([[]] : List (List Nm)).map LS)), none, none] [] = .nxt [some (LS l), some (.lst ((lots l).map LS)), y2, none] [] := by
    rw [ex_for, d_of (d_var rfl), Res.out_ok]
    exact q
  rw [x_seq q']
  exact x_ret (d_var rfl)
/-! ### all join, as the law says it -/
def adds (rows : List Row) (won here : List Nm) : List Nm := ((srt rows).filter fun r => !won.contains r.1 && decide (r.2 ≤ sees here r.1)).map (·.1)
def jn (rows : List Row) (won : List Nm) : Nat → List Nm
  | 0 => won
  | j + 1 => won ++ adds rows won (jn rows won j)
theorem adds_perm {rows : List Row} {won l r : List Nm} (p : l.Perm r) : adds rows won l = adds rows won r := by
  unfold adds
  congr 2
  funext x
  rw [sees_perm p]
theorem adds_sub (rows : List Row) (won here : List Nm) : (adds rows won here).Sublist (nms rows) := List.filter_sublist.map _
theorem adds_mem {rows : List Row} {won here : List Nm} {n : Nm} (h : n ∈ adds rows won here) : n ∉ won := by
  obtain ⟨r, hr, rfl⟩ := List.mem_map.mp h
  have := (List.mem_filter.mp hr).2
  simp only [Bool.and_eq_true, Bool.not_eq_true'] at this
  intro hm
  rw [List.contains_iff_mem.mpr hm] at this
  exact absurd this.1 (by simp)
theorem jn_joined {rows : List Row} {won : List Nm} (h : Farms rows) (hj : Joined rows won) (j : Nat) : Joined rows (jn rows won j) := by
  cases j with
  | zero => exact hj
  | succ j =>
    refine ⟨fun n hn => ?_, List.nodup_append.mpr ⟨hj.nd, (nms_nodup h).sublist (adds_sub ..), fun a ha b hb e => adds_mem hb (e ▸ ha)⟩⟩
    rcases List.mem_append.mp hn with hn | hn
    · exact hj.mem n hn
    · exact (adds_sub ..).subset hn
def aj (rows : List Row) (won : List Nm) : Bool := (jn rows won (rows.length + 1)).length == rows.length
def add20 : E := .bin .add (.var 1) (.comp [4] (.one 4) (.of (.var 0)) (.and (.cmp .notin (.idx (.var 4) (.cst (.int 0))) (.var 1)) (.cmp .ge (.callB .len (.cons (.comp [5] (.one 5) (.of (.var 2)) (.cmp .ne (.var 5) (.idx (.var 4) (.cst (.int 0)))) (.var 5)) .nil)) (.idx (.var 4) (.cst (.int 1))))) (.idx (.var 4) (.cst (.int 0))))
def body20 : S := .set 2 (.callB .sorted (.cons add20 .nil))
theorem b20_eq : b20 = .seq (.set 2 (.callB .sorted (.cons (.var 1) .nil))) (.seq (.for (.one 3) (.rng (.bin .add (.callB .len (.cons (.var 0) .nil)) (.cst (.int 1)))) body20) (.ret (.cmp .eq (.callB .len (.cons (.var 2) .nil)) (.callB .len (.cons (.var 0) .nil))))) := rfl
theorem turn20 {C : Ctx} {m : Store} {rows : List Row} {won here : List Nm} {x3 : Option T} (h : Farms rows) (hj : Joined rows won) (hh : Joined rows here) (hl : won.length + rows.length < 64) :
    exec C body20 [some (.lst ((srt rows).map rowT)), some (LS won), some (LS here), x3, none, none] m = .nxt [some (.lst ((srt rows).map rowT)), some (LS won), some (LS (sortBy T.str (won ++ adds rows won here))), x3, none, none] m := by
  have hhl : here.length ≤ LINE := Nat.le_trans (hh.len h) (by decide)
  have inn : ∀ r : Row, eval C (.callB .len (.cons (.comp [5] (.one 5) (.of (.var 2)) (.cmp .ne (.var 5) (.idx (.var 4) (.cst (.int 0)))) (.var 5)) .nil)) [some (.lst ((srt rows).map rowT)), some (LS won), some (LS here), x3, some (rowT r), none] m = .ok (.int (sees here r.1)) m := fun r => by
    have e := d_comp (C := C) (env := [some (.lst ((srt rows).map rowT)), some (LS won), some (LS here), x3, some (rowT r), none]) (m := m) (own := [5]) (tg := .one 5) (it := .of (.var 2)) (c := .cmp .ne (.var 5) (.idx (.var 4) (.cst (.int 0)))) (e := .var 5) (l := here) (f := T.str) (v := T.str) (p := fun x => !(x == r.1)) (d := false) (E := fun x => [some (.lst ((srt rows).map rowT)), some (LS won), some (LS here), x3, some (rowT r), some (.str x)])
      (d_of (d_var rfl)) (fun _ _ => rfl) (fun x _ => s_ne (d_var rfl) rfl) (fun x _ _ => d_var rfl) hhl
    have e2 := len_map e
    rwa [others_len hh.nd] at e2
  have e := d_comp (C := C) (env := [some (.lst ((srt rows).map rowT)), some (LS won), some (LS here), x3, none, none]) (m := m) (own := [4]) (tg := .one 4) (it := .of (.var 0)) (c := .and (.cmp .notin (.idx (.var 4) (.cst (.int 0))) (.var 1)) (.cmp .ge (.callB .len (.cons (.comp [5] (.one 5) (.of (.var 2)) (.cmp .ne (.var 5) (.idx (.var 4) (.cst (.int 0)))) (.var 5)) .nil)) (.idx (.var 4) (.cst (.int 1))))) (e := .idx (.var 4) (.cst (.int 0))) (l := srt rows) (f := rowT) (v := fun r => .str r.1) (p := fun r => !won.contains r.1 && decide (r.2 ≤ sees here r.1)) (d := false) (E := fun r => [some (.lst ((srt rows).map rowT)), some (LS won), some (LS here), x3, some (rowT r), none])
    (d_of (d_var rfl)) (fun _ _ => rfl) (fun r _ => by
      have c1 := s_notin (C := C) (m := m) (m1 := m) (env := [some (.lst ((srt rows).map rowT)), some (LS won), some (LS here), x3, some (rowT r), none]) (a := .idx (.var 4) (.cst (.int 0))) (b := .var 1) (n := r.1) (l := won) rfl (d_var rfl)
      cases hc : won.contains r.1 with
      | true => rw [hc] at c1; exact d_andF c1 rfl
      | false => rw [hc] at c1; exact d_andT c1 rfl (i_ge (inn r) rfl)) (fun r _ _ => rfl) (srt_le h)
  rw [fst_map] at e
  have len : (adds rows won here).length ≤ rows.length := by have := (adds_sub rows won here).length_le; rwa [nms_len] at this
  unfold body20
  refine x_set ?_
  have a := l_add (C := C) (m := m) (d_var (i := 1) (env := [some (.lst ((srt rows).map rowT)), some (LS won), some (LS here), x3, none, none]) (t := LS won) rfl) e (by
    rw [List.length_map, List.length_map]
    have : 64 ≤ LINE := by decide
    have h2 : (List.map (fun x => x.fst) (List.filter (fun r => !won.contains r.1 && decide (r.2 ≤ sees here r.1)) (srt rows))).length ≤ rows.length := len
    omega)
  rw [← List.map_append] at a
  exact d_sortS (l := won ++ adds rows won here) a (by rw [List.length_append]; omega)
theorem loop20 {C : Ctx} {m : Store} {rows : List Row} {won : List Nm} {w : Walk} (hw : w.at? = none) (h : Farms rows) (hj : Joined rows won) (hl : won.length + rows.length < 64) : ∀ (ts : List T) (j : Nat) (x3 : Option T),
    ∃ y3, forLoop w (fun t env m => (Res.ofO ((Tgt.one 3).set m t env) m).out env fun env m => exec C body20 env m) ts [some (.lst ((srt rows).map rowT)), some (LS won), some (LS (sortBy T.str (jn rows won j))), x3, none, none] m = .nxt [some (.lst ((srt rows).map rowT)), some (LS won), some (LS (sortBy T.str (jn rows won (j + ts.length)))), y3, none, none] m
  | [], j, x3 => ⟨x3, by unfold forLoop; rw [if_pos (wok_none hw)]; rfl⟩
  | t :: ts, j, x3 => by
    obtain ⟨y3, q⟩ := loop20 (C := C) (m := m) hw h hj hl ts (j + 1) (some t)
    refine ⟨y3, ?_⟩
    rw [forL_nxt hw (e1 := [some (.lst ((srt rows).map rowT)), some (LS won), some (LS (sortBy T.str (jn rows won (j + 1)))), some t, none, none]) (m1 := m)]
    · rw [q, List.length_cons, show j + 1 + ts.length = j + (ts.length + 1) by omega]
    · have := turn20 (C := C) (m := m) (x3 := some t) h hj (jn_joined h hj j).srt hl
      rw [adds_perm (sortBy_perm T.str (jn rows won j))] at this
      exact this
theorem lawjoin_ok (k : Nat) (m : Store) {rows : List Row} {won : List Nm} (h : Farms rows) (hj : Joined rows won) (h6 : rows.length ≤ 6) : callN P (k + 1) 20 [.lst ((srt rows).map rowT), LS won] m = .ok (.bl (aj rows won), false) m := by
  have hwl : won.length ≤ 6 := by have := nodup_len hj.nd hj.mem; rw [nms_len] at this; omega
  refine call_g (i := 20) rfl rfl rfl (up_args2 rfl) (m1 := []) ?_ rfl
  show exec (Cn k) b20 [some (.lst ((srt rows).map rowT)), some (LS won), none, none, none, none] [] = _
  rw [b20_eq, x_seq (x_set (d_sortS (l := won) (d_var rfl) (by omega)))]
  show exec (Cn k) _ [some (.lst ((srt rows).map rowT)), some (LS won), some (LS (sortBy T.str (jn rows won 0))), none, none, none] [] = _
  obtain ⟨y3, q⟩ := loop20 (C := Cn k) (m := []) (w := ⟨upFrom 0 (rows.length + 1), none, false⟩) rfl h hj (by omega) (upFrom 0 (rows.length + 1)) 0 none
  rw [upFrom_len, Nat.zero_add] at q
  have el : eval (Cn k) (.bin .add (.callB .len (.cons (.var 0) .nil)) (.cst (.int 1))) [some (.lst ((srt rows).map rowT)), some (LS won), some (LS (sortBy T.str (jn rows won 0))), none, none, none] [] = .ok (.int (rows.length + 1 : Nat)) [] := by
    have := d_add (C := Cn k) (len_map (l := srt rows) (f := rowT) (d_var (i := 0) (env := [some (.lst ((srt rows).map rowT)), some (LS won), some (LS (sortBy T.str (jn rows won 0))), none, none, none]) (m := []) rfl)) (ev_cst (t := .int 1))
    rw [srt_len] at this
    exact this
  have q' : exec (Cn k) (.for (.one 3) (.rng (.bin .add (.callB .len (.cons (.var 0) .nil)) (.cst (.int 1)))) body20) [some (.lst ((srt rows).map rowT)), some (LS won), some (LS (sortBy T.str (jn rows won 0))), none, none, none] [] = .nxt [some (.lst ((srt rows).map rowT)), some (LS won), some (LS (sortBy T.str (jn rows won (rows.length + 1)))), y3, none, none] [] := by
    rw [ex_for, r_one el (by omega) (by omega), Res.out_ok]
    exact q
  rw [x_seq q']
  refine x_ret ?_
  have c := i_eq (C := Cn k) (len_map (l := sortBy T.str (jn rows won (rows.length + 1))) (f := T.str) (d_var (i := 2) (env := [some (.lst ((srt rows).map rowT)), some (LS won), some (LS (sortBy T.str (jn rows won (rows.length + 1)))), y3, none, none]) (m := []) rfl)) (len_map (l := srt rows) (f := rowT) (d_var (i := 0) rfl))
  rw [c, (sortBy_perm T.str _).length_eq, srt_len]
  have e0 : ∀ a b : Nat, decide ((a : Int) = (b : Int)) = (a == b) := fun a b => by
    by_cases e : a = b
    · rw [decide_eq_true (by omega), e]; simp
    · rw [decide_eq_false (by omega), beq_eq_false_iff_ne.mpr e]
  rw [e0]; rfl
end K69
end

section
set_option Elab.async false
set_option linter.all false
set_option maxRecDepth 100000
set_option maxHeartbeats 0
namespace K69
open MP
open MP (S E T EL It)
/-! ### all join, as the program says it -/
def nums (rs : List Row) (won : List Nm) : List Int := sortBy T.int ((rs.filter fun r => !won.contains r.1).map (·.2))
def pjL (rs : List Row) (won : List Nm) : List Nat := (List.range (nums rs won).length).filter fun i => decide ((won.length : Int) + i < (nums rs won)[i]?.getD 0)
def pj (rs : List Row) (won : List Nm) : Bool := (pjL rs won).isEmpty
theorem snd_map (l : List Row) : l.map (fun r => T.int r.2) = (l.map (·.2)).map T.int := by rw [List.map_map]; rfl
theorem join9_ok (k : Nat) (m : Store) {rs : List Row} {won : List Nm} (hl : rs.length ≤ 100) : callN P (k + 1) 9 [.lst (rs.map rowT), LS won] m = .ok (.bl (pj rs won), false) m := by
  have hL : rs.length ≤ LINE := Nat.le_trans hl (by decide)
  have hn : (nums rs won).length ≤ rs.length := by
    unfold nums
    rw [(sortBy_perm T.int _).length_eq, List.length_map]
    exact List.length_filter_le ..
  refine call_g (i := 9) rfl rfl rfl (up_args2 rfl) (m1 := []) ?_ rfl
  show exec (Cn k) b9 [some (.lst (rs.map rowT)), some (LS won), none, none, none, none] [] = _
  unfold b9
  have e := d_comp (C := Cn k) (env := [some (.lst (rs.map rowT)), some (LS won), none, none, none, none]) (m := []) (own := [3, 4]) (tg := .many [3, 4]) (it := .of (.var 0)) (c := .cmp .notin (.var 3) (.var 1)) (e := .var 4) (l := rs) (f := rowT) (v := fun r => .int r.2) (p := fun r => !won.contains r.1) (d := false) (E := fun r => [some (.lst (rs.map rowT)), some (LS won), none, some (.str r.1), some (.int r.2), none])
    (d_of (d_var rfl)) (fun _ _ => rfl) (fun r _ => s_notin (d_var rfl) (d_var rfl)) (fun r _ _ => d_var rfl) hL
  rw [snd_map] at e
  rw [x_seq (x_set (d_sorted (k := (0, [])) e (fun _ _ => rfl) (by decide)))]
  show exec (Cn k) _ [some (.lst (rs.map rowT)), some (LS won), some (.lst ((nums rs won).map T.int)), none, none, none] [] = _
  have r : evalI (Cn k) (.rng (.callB .len (.cons (.var 2) .nil))) [some (.lst (rs.map rowT)), some (LS won), some (.lst ((nums rs won).map T.int)), none, none, none] [] = .ok ⟨(List.range (nums rs won).length).map fun (i : Nat) => T.int (0 + i), none, false⟩ [] := by
    rw [r_one (len_map (l := nums rs won) (f := T.int) (d_var rfl)) (by omega) (by omega), Int.toNat_natCast, upFrom_eq]
  have e2 := d_comp (C := Cn k) (env := [some (.lst (rs.map rowT)), some (LS won), some (.lst ((nums rs won).map T.int)), none, none, none]) (m := []) (own := [5]) (tg := .one 5) (c := .cmp .lt (.bin .add (.callB .len (.cons (.var 1) .nil)) (.var 5)) (.idx (.var 2) (.var 5))) (e := .var 5) (l := List.range (nums rs won).length) (f := fun (i : Nat) => T.int (0 + i)) (v := fun (i : Nat) => T.int (0 + i)) (p := fun i => decide ((won.length : Int) + i < (nums rs won)[i]?.getD 0)) (d := false) (E := fun (i : Nat) => [some (.lst (rs.map rowT)), some (LS won), some (.lst ((nums rs won).map T.int)), none, none, some (.int (0 + i))])
    r (fun _ _ => rfl) (fun i hi => by
      have hi := List.mem_range.mp hi
      have q : (nums rs won)[i]? = some (nums rs won)[i] := List.getElem?_eq_getElem hi
      rw [Int.zero_add]
      have x : eval (Cn k) (.idx (.var 2) (.var 5)) [some (.lst (rs.map rowT)), some (LS won), some (.lst ((nums rs won).map T.int)), none, none, some (.int (i : Int))] [] = .ok (.int ((nums rs won)[i]?.getD 0)) [] := by
        rw [q]
        exact d_idx (d_var rfl) (d_var rfl) (idx_map (f := T.int) q)
      exact i_lt (d_add (len_map (l := won) (f := T.str) (d_var rfl)) (d_var rfl)) x) (fun i _ _ => d_var rfl) (by rw [List.length_range]; omega)
  have n := d_not e2 (b := !(pjL rs won).isEmpty) (by
    show some (!((pjL rs won).map _).isEmpty) = _
    cases pjL rs won <;> rfl)
  rw [Bool.not_not] at n
  exact x_ret n
/-! ### those to be won over -/
def negT (r : Row) : T := .tup [.int (-r.2), .str r.1]
def negs (rs : List Row) : List Row := sortBy negT rs
def ordr (rs : List Row) : List Nm := (negs rs).map (·.1)
theorem negs_len (rs : List Row) : (negs rs).length = rs.length := (sortBy_perm negT rs).length_eq
theorem d_neg {C : Ctx} {env : Env} {m m1 : Store} {a : E} {i : Int} (h : eval C a env m = .ok (.int i) m1) : eval C (.neg a) env m = .ok (.int (-i)) m1 := by
  show (eval C a env m).bind _ = _
  rw [h]; rfl
def neg8 : E := .comp [4, 3] (.many [4, 3]) (.of (.var 1)) (.cst (.bl true)) (.tup (.cons (.neg (.var 3)) (.cons (.var 4) .nil)))
def ord8 : E := .comp [3, 4] (.many [3, 4]) (.of (.callB .sorted (.cons neg8 .nil))) (.cst (.bl true)) (.var 4)
def test8 : E := .not (.callF 9 (.cons (.var 1) (.cons (.slice (.var 2) (.cst .non) (.var 5)) .nil)) [])
theorem b8_eq : b8 = .seq (.set 1 (.callF 4 (.cons (.var 0) .nil) [])) (.seq (.set 2 ord8) (.seq (.set 5 (.cst (.int 0))) (.seq (.while test8 (.set 5 (.bin .add (.var 5) (.cst (.int 1))))) (.ret (.callB .sorted (.cons (.slice (.var 2) (.cst .non) (.var 5)) .nil)))))) := rfl
theorem ord8_ok {C : Ctx} {m : Store} {rs : List Row} {x0 : Option T} (h : rs.length ≤ 100) : eval C ord8 [x0, some (.lst (rs.map rowT)), none, none, none, none] m = .ok (LS (ordr rs)) m := by
  have hL : rs.length ≤ LINE := Nat.le_trans h (by decide)
  have e1 := d_map (C := C) (env := [x0, some (.lst (rs.map rowT)), none, none, none, none]) (m := m) (own := [4, 3]) (tg := .many [4, 3]) (it := .of (.var 1)) (e := .tup (.cons (.neg (.var 3)) (.cons (.var 4) .nil))) (l := rs) (f := rowT) (v := negT) (E := fun r => [x0, some (.lst (rs.map rowT)), none, some (.int r.2), some (.str r.1), none])
    (d_of (d_var rfl)) (fun _ _ => rfl) (fun r _ => d_tup2 (d_neg (d_var rfl)) (d_var rfl)) hL
  have e2 := d_sorted (k := (2, [false, true])) e1 (fun _ _ => rfl) (by decide)
  have e3 := d_map (C := C) (env := [x0, some (.lst (rs.map rowT)), none, none, none, none]) (m := m) (own := [3, 4]) (tg := .many [3, 4]) (it := .of (.callB .sorted (.cons neg8 .nil))) (e := .var 4) (l := negs rs) (f := negT) (v := fun r => .str r.1) (E := fun r => [x0, some (.lst (rs.map rowT)), none, some (.int (-r.2)), some (.str r.1), none])
    (d_of e2) (fun _ _ => rfl) (fun r _ => d_var rfl) (by rw [negs_len]; exact hL)
  rw [fst_map] at e3
  exact e3
/-- the fewest of the order by whom all join -/
structure Least (rs : List Row) (K : Nat) : Prop where
  le : K ≤ rs.length
  yes : pj rs ((ordr rs).take K) = true
  no : ∀ j, j < K → pj rs ((ordr rs).take j) = false
abbrev ev8 (rs0 rs : List Row) (j : Nat) : Env := [some (.lst (rs0.map rowT)), some (.lst (rs.map rowT)), some (LS (ordr rs)), none, none, some (.int (j : Int))]
theorem cut8 {C : Ctx} {m : Store} {rs0 rs : List Row} {j : Nat} : eval C (.slice (.var 2) (.cst .non) (.var 5)) (ev8 rs0 rs j) m = .ok (LS ((ordr rs).take j)) m := by
  have := l_take (C := C) (m := m) (m1 := m) (m2 := m) (env := ev8 rs0 rs j) (a := .var 2) (hi := .var 5) (xs := (ordr rs).map T.str) (j := j) (d_var rfl) (d_var rfl)
  rw [← List.map_take] at this
  exact this
theorem loop8 {k : Nat} {m : Store} {rs0 rs : List Row} {K : Nat} (h : rs.length ≤ 100) (hk : Least rs K) : ∀ (n j f : Nat), j + n = K → n < f →
    whileLoop (fun env m => test (Cn (k + 1)) test8 env m) (fun env m => exec (Cn (k + 1)) (.set 5 (.bin .add (.var 5) (.cst (.int 1)))) env m) f (ev8 rs0 rs j) m = .nxt (ev8 rs0 rs K) m
  | n, j, 0, _, hf => absurd hf (by omega)
  | n, j, f + 1, hj, hf => by
    have t := d_test (d_not (c_call0 (P := P) (k := k + 1) (env := ev8 rs0 rs j) (m := m) (r := (.bl (pj rs ((ordr rs).take j)), false)) (ds_cons (d_var (i := 1) rfl) (ds_cons cut8 ds_nil)) (join9_ok k m h)) rfl) rfl
    have t : test (Cn (k + 1)) test8 (ev8 rs0 rs j) m = .ok (!(pj rs ((ordr rs).take j))) m := t
    conv => lhs; unfold whileLoop
    rw [t, Res.out_ok]
    cases n with
    | zero =>
      have : j = K := by omega
      subst this
      rw [hk.yes]; rfl
    | succ n =>
      rw [hk.no j (by omega)]
      have e : exec (Cn (k + 1)) (.set 5 (.bin .add (.var 5) (.cst (.int 1)))) (ev8 rs0 rs j) m = .nxt (ev8 rs0 rs (j + 1)) m := x_set (t := .int ((j : Int) + 1)) (d_add (d_var rfl) ev_cst)
      simp only [Bool.not_false, if_true, e]
      exact loop8 h hk n (j + 1) f (by omega) (by omega)
theorem starters_ok (k : Nat) (m : Store) {rows : List Row} (h : Farms rows) {K : Nat} (hk : Least (srt rows) K) : callN P (k + 4) 8 [.lst (rows.map rowT)] m = .ok (LS (sortBy T.str ((ordr (srt rows)).take K)), false) m := by
  have hl : (srt rows).length ≤ 40 := by rw [srt_len]; exact h.len
  refine call_g (i := 8) rfl rfl rfl (up_args rfl) (m1 := []) ?_ (up_strs _)
  show exec (Cn (k + 3)) b8 [some (.lst (rows.map rowT)), none, none, none, none, none] [] = _
  rw [b8_eq, x_seq (x_set (call_fa h rfl))]
  show exec (Cn (k + 3)) _ [some (.lst (rows.map rowT)), some (.lst ((srt rows).map rowT)), none, none, none, none] [] = _
  rw [x_seq (x_set (ord8_ok (by omega)))]
  rw [x_seq (x_set (i := 5) ev_cst)]
  have q : exec (Cn (k + 3)) (.while test8 (.set 5 (.bin .add (.var 5) (.cst (.int 1))))) (ev8 rows (srt rows) 0) [] = .nxt (ev8 rows (srt rows) K) [] := loop8 (k := k + 2) (by omega) hk K 0 100000 (by omega) (by have := hk.le; omega)
  show exec (Cn (k + 3)) _ (ev8 rows (srt rows) 0) [] = _
  rw [x_seq q]
  refine x_ret (d_sortS cut8 ?_)
  have := hk.le
  rw [List.length_take]; omega
theorem judge_ok (k : Nat) (m : Store) {rows : List Row} {l : List Nm} (h : Farms rows) (hj : Joined rows l) {K : Nat} (hk : Least (srt rows) K) : callN P (k + 5) 10 [.lst (rows.map rowT), LS l] m = .ok (.bl (pj (srt rows) (sortBy T.str l) && (l.length == K)), false) m := by
  have hl : (srt rows).length ≤ 40 := by rw [srt_len]; exact h.len
  refine call_g (i := 10) rfl rfl rfl (up_args2 rfl) (m1 := []) ?_ rfl
  show exec (Cn (k + 4)) b10 [some (.lst (rows.map rowT)), some (LS l), none, none] [] = _
  unfold b10
  rw [x_seq (x_set (call_fa h rfl))]
  show exec (Cn (k + 4)) _ [some (.lst (rows.map rowT)), some (LS l), some (.lst ((srt rows).map rowT)), none] [] = _
  rw [x_seq (x_set (c_call0 (r := (LS (sortBy T.str l), false)) (ds_cons (d_var rfl) (ds_cons (d_var rfl) ds_nil)) (joined_ok k [] (farms_srt h) (Joined.of.mpr hj))))]
  show exec (Cn (k + 4)) _ [some (.lst (rows.map rowT)), some (LS l), some (.lst ((srt rows).map rowT)), some (LS (sortBy T.str l))] [] = _
  refine x_ret ?_
  have c1 := c_call0 (P := P) (k := k + 4) (f := 9) (env := [some (.lst (rows.map rowT)), some (LS l), some (.lst ((srt rows).map rowT)), some (LS (sortBy T.str l))]) (m := []) (args := .cons (.var 2) (.cons (.var 3) .nil)) (r := (.bl (pj (srt rows) (sortBy T.str l)), false)) (ds_cons (d_var rfl) (ds_cons (d_var rfl) ds_nil)) (join9_ok (k + 3) [] (by omega))
  cases hp : pj (srt rows) (sortBy T.str l) with
  | false => rw [hp] at c1; exact d_andF c1 rfl
  | true =>
    rw [hp] at c1
    refine d_andT c1 rfl ?_
    have hk' : Least (srt (srt rows)) K := by rw [srt_srt]; exact hk
    have c2 := i_eq (len_map (l := sortBy T.str l) (f := T.str) (d_var (C := Cn (k + 4)) (i := 3) (env := [some (.lst (rows.map rowT)), some (LS l), some (.lst ((srt rows).map rowT)), some (LS (sortBy T.str l))]) (m := []) rfl)) (len_map (l := sortBy T.str ((ordr (srt (srt rows))).take K)) (f := T.str) (c_call0 (r := (LS (sortBy T.str ((ordr (srt (srt rows))).take K)), false)) (ds_cons (d_var (i := 2) (t := .lst ((srt rows).map rowT)) rfl) ds_nil) (starters_ok k [] (farms_srt h) hk')))
    have e1 : (sortBy T.str l).length = l.length := (sortBy_perm T.str l).length_eq
    have e2 : (sortBy T.str ((ordr (srt (srt rows))).take K)).length = K := by
      rw [(sortBy_perm T.str _).length_eq, List.length_take]
      unfold ordr
      rw [List.length_map, negs_len, srt_srt]
      have := hk.le
      omega
    rw [e1, e2] at c2
    have e0 : decide ((l.length : Int) = (K : Int)) = (l.length == K) := by
      by_cases e : l.length = K
      · rw [decide_eq_true (by omega), e]; simp
      · rw [decide_eq_false (by omega), beq_eq_false_iff_ne.mpr e]
    rw [e0] at c2
    rw [Bool.true_and]
    exact c2
end K69
end

section
set_option Elab.async false
set_option linter.all false
set_option maxRecDepth 100000
set_option maxHeartbeats 0
namespace K69
open MP
open MP (S E T EL It)
/-! ### the same -/
def loop12 : S := .ite (.not (.callF 12 (.cons (.idx (.var 0) (.var 2)) (.cons (.idx (.var 1) (.var 2)) .nil)) [])) (.ret (.cst (.bl false))) (.skip)
def seq12 : S := .seq (.ite (.or (.cmp .ne (.isinst (.var 1) [.tuple]) (.isinst (.var 0) [.tuple])) (.cmp .ne (.isinst (.var 1) [.list]) (.isinst (.var 0) [.list]))) (.ret (.cst (.bl false))) (.skip)) (.seq (.ite (.cmp .ne (.callB .len (.cons (.var 0) .nil)) (.callB .len (.cons (.var 1) .nil))) (.ret (.cst (.bl false))) (.skip)) (.seq (.for (.one 2) (.rng (.callB .len (.cons (.var 1) .nil))) loop12) (.ret (.cst (.bl true)))))
def flat12 : S := .seq (.ite (.isinst (.var 1) [.bool]) (.ret (.and (.isinst (.var 0) [.bool]) (.cmp .eq (.var 0) (.var 1)))) (.skip)) (.seq (.ite (.isinst (.var 1) [.int]) (.ret (.and (.isinst (.var 0) [.int]) (.and (.not (.isinst (.var 0) [.bool])) (.cmp .eq (.var 0) (.var 1))))) (.skip)) (.ret (.and (.isinst (.var 0) [.str]) (.cmp .eq (.var 0) (.var 1)))))
theorem b12_eq : b12 = .seq (.ite (.cmp .is (.var 1) (.cst (.non))) (.ret (.cmp .is (.var 0) (.cst (.non)))) (.skip)) (.seq (.ite (.isinst (.var 1) [.tuple, .list]) seq12 (.skip)) flat12) := rfl
def Sm (k : Nat) (t : T) : Prop := T.upTo 0 t = true ∧ ∀ k' m, callN P (k + k' + 1) 12 [t, t] m = .ok (.bl true, false) m
theorem up_two {t : T} (h : T.upTo 0 t = true) : T.upTos 0 [t, t] = true := by show (T.upTo 0 t && (T.upTo 0 t && true)) = true; rw [h]; rfl
theorem sm_int (i : Int) : Sm 0 (.int i) := by
  refine ⟨rfl, fun k' m => ?_⟩
  refine call_g (i := 12) rfl rfl rfl rfl (m1 := []) ?_ rfl
  show exec (Cn (0 + k')) b12 [some (.int i), some (.int i), none] [] = _
  have : exec (Cn (0 + k')) b12 [some (.int i), some (.int i), none] [] = .ret (.bl (i == i)) false [] := rfl
  rw [this]; simp
theorem sm_bl (b : Bool) : Sm 0 (.bl b) := by
  refine ⟨rfl, fun k' m => ?_⟩
  refine call_g (i := 12) rfl rfl rfl rfl (m1 := []) ?_ rfl
  show exec (Cn (0 + k')) b12 [some (.bl b), some (.bl b), none] [] = _
  have : exec (Cn (0 + k')) b12 [some (.bl b), some (.bl b), none] [] = .ret (.bl (b == b)) false [] := rfl
  rw [this]; simp
theorem sm_str (s : Nm) : Sm 0 (.str s) := by
  refine ⟨rfl, fun k' m => ?_⟩
  refine call_g (i := 12) rfl rfl rfl rfl (m1 := []) ?_ rfl
  show exec (Cn (0 + k')) b12 [some (.str s), some (.str s), none] [] = _
  have : exec (Cn (0 + k')) b12 [some (.str s), some (.str s), none] [] = .ret (.bl (s == s)) false [] := rfl
  rw [this]; simp
theorem sm_up {k j : Nat} {t : T} (h : Sm k t) (hj : k ≤ j) : Sm j t := ⟨h.1, fun k' m => by
  obtain ⟨d, rfl⟩ : ∃ d, j = k + d := ⟨j - k, by omega⟩
  have := h.2 (d + k') m
  rwa [show k + (d + k') + 1 = k + d + k' + 1 by omega] at this⟩
theorem loop12_ok {k' k : Nat} {t : T} {xs : List T} (hx : ∀ x ∈ xs, Sm k x) (hi : ∀ (m : Store) (j : Nat), idxT m t (.int j) = idxL xs (.int j)) : ∃ e2, forLoop ⟨upFrom 0 xs.length, none, false⟩ (fun u env m => (Res.ofO ((Tgt.one 2).set m u env) m).out env fun env m => exec (Cn (k + k' + 1)) loop12 env m) (upFrom 0 xs.length) [some t, some t, none] [] = .nxt [some t, some t, e2] [] := by
  obtain ⟨env', m', q, x2, rfl, rfl⟩ := for_all (w := ⟨upFrom 0 xs.length, none, false⟩) (f := fun u env m => (Res.ofO ((Tgt.one 2).set m u env) m).out env fun env m => exec (Cn (k + k' + 1)) loop12 env m) (I := fun env m => ∃ x2, env = [some t, some t, x2] ∧ m = []) rfl (upFrom 0 xs.length) (fun u hu env m ⟨x2, he, hm⟩ => by
    subst he; subst hm
    obtain ⟨j, hj, rfl⟩ := mem_upFrom hu
    rw [Int.zero_add]
    refine ⟨[some t, some t, some (.int j)], [], ?_, _, rfl, rfl⟩
    show exec (Cn (k + k' + 1)) loop12 [some t, some t, some (.int j)] [] = _
    unfold loop12
    have hg : xs[j]? = some xs[j] := List.getElem?_eq_getElem hj
    have ix : idxT [] t (.int j) = some xs[j] := by rw [hi]; exact idx_at (m := []) hg
    exact x_ifF (d_not (c_call0 (r := (.bl true, false)) (ds_cons (d_idx (d_var rfl) (d_var rfl) ix) (ds_cons (d_idx (d_var rfl) (d_var rfl) ix) ds_nil)) ((hx _ (List.getElem_mem hj)).2 k' [])) rfl) rfl) (env := [some t, some t, none]) (m := []) ⟨none, rfl, rfl⟩
  exact ⟨x2, q⟩
theorem sm_seq {k : Nat} {t : T} {xs : List T} (hx : ∀ x ∈ xs, Sm k x) (hl : xs.length ≤ LINE) (hu : T.upTo 0 t = true) (hi : ∀ (m : Store) (j : Nat), idxT m t (.int j) = idxL xs (.int j)) (hn : biT [] .len [t] = some (.int xs.length)) (ht : typN [] t = some "tuple" ∨ typN [] t = some "list") (h0 : isNon t = false) : Sm (k + 1) t := by
  refine ⟨hu, fun k' m => ?_⟩
  refine call_g (i := 12) rfl rfl rfl (up_two hu) (m1 := []) ?_ rfl
  show exec (Cn (k + 1 + k')) b12 [some t, some t, none] [] = _
  rw [show k + 1 + k' = k + k' + 1 by omega]
  have isi : ∀ ys, eval (Cn (k + k' + 1)) (.isinst (.var 1) ys) [some t, some t, none] [] = .ofO ((isTys (Cn (k + k' + 1)).sub [] t ys).map .bl) [] := fun ys => rfl
  have isi0 : ∀ ys, eval (Cn (k + k' + 1)) (.isinst (.var 0) ys) [some t, some t, none] [] = .ofO ((isTys (Cn (k + k' + 1)).sub [] t ys).map .bl) [] := fun ys => rfl
  have c0 : eval (Cn (k + k' + 1)) (.cmp .is (.var 1) (.cst (.non))) [some t, some t, none] [] = .ok (.bl false) [] := by
    refine d_cmp (d_var rfl) ev_cst ?_
    show some (isNon t) = _
    rw [h0]
  have len : ∀ j, (j = 0 ∨ j = 1) → eval (Cn (k + k' + 1)) (.callB .len (.cons (.var j) .nil)) [some t, some t, none] [] = .ok (.int xs.length) [] := fun j hj => by
    rcases hj with rfl | rfl <;> exact d_bi1 (d_var rfl) hn
  have isB : ∀ y : Ty, (y = .tuple ∨ y = .list) → ∃ b : Bool, eval (Cn (k + k' + 1)) (.isinst (.var 1) [y]) [some t, some t, none] [] = .ok (.bl b) [] ∧ eval (Cn (k + k' + 1)) (.isinst (.var 0) [y]) [some t, some t, none] [] = .ok (.bl b) [] := fun y hy => by
    rw [isi, isi0]
    unfold isTys isTys isTy
    rcases hy with rfl | rfl <;> rcases ht with h | h <;> simp [h, tySub, Ty.nm]
  obtain ⟨x, x1, x0⟩ := isB .tuple (.inl rfl)
  obtain ⟨y, y1, y0⟩ := isB .list (.inr rfl)
  have c1 : eval (Cn (k + k' + 1)) (.isinst (.var 1) [.tuple, .list]) [some t, some t, none] [] = .ok (.bl true) [] := by
    rw [isi]
    unfold isTys isTys isTys isTy
    rcases ht with h | h <;> simp [h, tySub, Ty.nm]
  obtain ⟨e2, q⟩ := loop12_ok (k' := k') hx hi
  rw [b12_eq, x_seq (x_ifF c0 rfl)]
  refine x_seqR ?_
  rw [x_iteT (d_test c1 rfl)]
  unfold seq12
  have nb : ∀ b : Bool, cmpT [] .ne (.bl b) (.bl b) = some false := fun b => by cases b <;> rfl
  rw [x_seq (x_ifF (d_orF (d_cmp x1 x0 (nb x)) rfl (d_cmp y1 y0 (nb y))) rfl)]
  rw [x_seq (x_ifF (x := .bl false) (d_cmp (len 0 (.inl rfl)) (len 1 (.inr rfl)) (by show some (!((xs.length : Int) == xs.length)) = _; simp)) rfl)]
  have hr : rngOk (xs.length : Int) = true := by
    unfold rngOk
    have : LINE < 4611686018427387904 := by decide
    simp; omega
  have er : evalI (Cn (k + k' + 1)) (.rng (.callB .len (.cons (.var 1) .nil))) [some t, some t, none] [] = .ok ⟨upFrom 0 xs.length, none, false⟩ [] := by
    show (eval (Cn (k + k' + 1)) (.callB .len (.cons (.var 1) .nil)) [some t, some t, none] []).bind _ = _
    rw [len 1 (.inr rfl), Res.bind_ok]
    show (if rngOk (xs.length : Int) = true then Res.ok (Walk.mk (upFrom 0 (xs.length : Int).toNat) none false) [] else .stuck) = _
    rw [if_pos hr, Int.toNat_natCast]
  have fo : exec (Cn (k + k' + 1)) (.for (.one 2) (.rng (.callB .len (.cons (.var 1) .nil))) loop12) [some t, some t, none] [] = .nxt [some t, some t, e2] [] := by
    rw [ex_for, er, Res.out_ok]
    exact q
  rw [x_seq fo]
  exact x_ret ev_cst
theorem sm_lst {k : Nat} {xs : List T} (hx : ∀ x ∈ xs, Sm k x) (hl : xs.length ≤ LINE) : Sm (k + 1) (.lst xs) := by
  refine sm_seq hx hl ?_ (fun _ _ => rfl) rfl (.inr rfl) rfl
  show T.upTos 0 xs = true
  have : ∀ l : List T, (∀ x ∈ l, Sm k x) → T.upTos 0 l = true := by
    intro l
    induction l with
    | nil => intro _; rfl
    | cons a l ih =>
      intro h
      show (T.upTo 0 a && T.upTos 0 l) = true
      rw [(h a (List.mem_cons_self ..)).1, ih fun x hx => h x (List.mem_cons_of_mem _ hx)]; rfl
  exact this xs hx
theorem sm_tup2 {k : Nat} {x y : T} (hx : Sm k x) (hy : Sm k y) : Sm (k + 1) (.tup [x, y]) := by
  refine sm_seq (xs := [x, y]) (fun z hz => ?_) (by simp [LINE]) ?_ (fun _ _ => rfl) rfl (.inl rfl) rfl
  · simp only [List.mem_cons, List.not_mem_nil, or_false] at hz
    rcases hz with rfl | rfl
    · exact hx
    · exact hy
  · show (T.upTo 0 x && (T.upTo 0 y && true)) = true
    rw [hx.1, hy.1]; rfl
theorem sm_row (r : Row) : Sm 1 (rowT r) := sm_tup2 (sm_str _) (sm_int _)
theorem sm_rows {l : List Row} (h : l.length ≤ 100) : Sm 2 (.lst (l.map rowT)) := sm_lst (fun x hx => by obtain ⟨r, _, rfl⟩ := List.mem_map.mp hx; exact sm_row r) (by rw [List.length_map]; exact Nat.le_trans h (by decide))
/-- .. as it stands in the law -/
theorem same_ev {k : Nat} {env : Env} {m m1 m2 : Store} {a b : E} {t : T} (hs : Sm 2 t) (ha : eval (Cn (k + 3)) a env m = .ok t m1) (hb : eval (Cn (k + 3)) b env m1 = .ok t m2) : eval (Cn (k + 3)) (.not (.callF 12 (.cons a (.cons b .nil)) [])) env m = .ok (.bl false) m2 :=
  d_not (c_call0 (r := (.bl true, false)) (ds_cons ha (ds_cons hb ds_nil)) (by have := hs.2 k m2; rwa [show 2 + k + 1 = k + 3 by omega] at this)) rfl
end K69
end

section
set_option Elab.async false
set_option linter.all false
set_option maxRecDepth 100000
set_option maxHeartbeats 0
namespace K69
open MP
open MP (S E T EL It)
/-! ### changed -/
def Bad (t : T) : Prop := t = .int (-1) ∨ t = .int 41 ∨ t = .bl true
theorem bad3 (k : Nat) (m : Store) {t : T} (h : Bad t) : callN P (k + 2) 3 [t, .int 0, .int 40] m = .exc 2 [] m := by
  rcases h with rfl | rfl | rfl <;> rfl
theorem chkX {k i : Nat} {env : Env} {m : Store} {t : T} (h : env.get i = some t) (hb : Bad t) : eval (Cn (k + 2)) (.callF 3 (.cons (.var i) (.cons (.cst (.int 0)) (.cons (.glo 0 (.int 40)) .nil))) []) env m = .exc 2 [] m :=
  c_callX (ds_cons (d_var h) (ds_cons ev_cst (ds_cons ev_glo ds_nil))) (bad3 k m hb)
theorem up_bad {t : T} (h : Bad t) : T.upTo 0 t = true := by rcases h with rfl | rfl | rfl <;> rfl
def modR (n : Nm) (p : Int) (r : Row) : Row := (r.1, if r.1 == n then p else r.2)
def names11 : E := .comp [4] (.one 4) (.of (.var 3)) (.cst (.bl true)) (.idx (.var 4) (.cst (.int 0)))
def mod11 : E := .comp [5, 6] (.many [5, 6]) (.of (.var 3)) (.cst (.bl true)) (.tup (.cons (.var 5) (.cons (.ite (.cmp .eq (.var 5) (.var 1)) (.var 2) (.var 6)) .nil)))
def if11 : S := .ite (.cmp .notin (.var 1) names11) (.raise 4 false (.cons (.cst (.str ['n', 'a', 'm', 'e'])) .nil)) (.skip)
theorem b11_eq : b11 = .seq (.set 3 (.callF 4 (.cons (.var 0) .nil) [])) (.seq if11 (.seq (.expr (.callF 3 (.cons (.var 2) (.cons (.cst (.int 0)) (.cons (.glo 0 (.int 40)) .nil))) [])) (.ret mod11))) := rfl
theorem names11_ok {C : Ctx} {rows : List Row} {x0 x1 x2 : Option T} (h : Farms rows) : eval C names11 [x0, x1, x2, some (.lst ((srt rows).map rowT)), none, none, none] [] = .ok (.lst ((nms rows).map T.str)) [] := by
  have e := d_map (C := C) (env := [x0, x1, x2, some (.lst ((srt rows).map rowT)), none, none, none]) (m := []) (own := [4]) (tg := .one 4) (it := .of (.var 3)) (e := .idx (.var 4) (.cst (.int 0))) (l := srt rows) (f := rowT) (v := fun r => .str r.1) (E := fun r => [x0, x1, x2, some (.lst ((srt rows).map rowT)), some (rowT r), none, none])
    (d_of (d_var rfl)) (fun _ _ => rfl) (fun r _ => rfl) (srt_le h)
  rw [fst_map] at e
  exact e
theorem mod11_ok {C : Ctx} {rows : List Row} {x0 : Option T} {n : Nm} {p : Int} (h : Farms rows) : eval C mod11 [x0, some (.str n), some (.int p), some (.lst ((srt rows).map rowT)), none, none, none] [] = .ok (.lst (((srt rows).map (modR n p)).map rowT)) [] := by
  have e := d_map (C := C) (env := [x0, some (.str n), some (.int p), some (.lst ((srt rows).map rowT)), none, none, none]) (m := []) (own := [5, 6]) (tg := .many [5, 6]) (it := .of (.var 3)) (e := .tup (.cons (.var 5) (.cons (.ite (.cmp .eq (.var 5) (.var 1)) (.var 2) (.var 6)) .nil))) (l := srt rows) (f := rowT) (v := fun r => rowT (modR n p r)) (E := fun r => [x0, some (.str n), some (.int p), some (.lst ((srt rows).map rowT)), none, some (.str r.1), some (.int r.2)])
    (d_of (d_var rfl)) (fun _ _ => rfl) (fun r _ => d_tup2 (d_var rfl) (d_ite (x := .bl (r.1 == n)) (r := r.1 == n) rfl rfl (by unfold modR; cases hb : r.1 == n <;> rfl))) (srt_le h)
  rw [show (srt rows).map (fun r => rowT (modR n p r)) = ((srt rows).map (modR n p)).map rowT by rw [List.map_map]; rfl] at e
  exact e
theorem notc {l : List Nm} {n : Nm} (h : n ∉ l) : l.contains n = false := by
  cases q : l.contains n with
  | false => rfl
  | true => exact absurd (List.contains_iff_mem.mp q) h
theorem changed_ok (k : Nat) (m : Store) {rows : List Row} {n : Nm} {p : Int} (h : Farms rows) (hn : n ∈ nms rows) (p0 : 0 ≤ p) (p1 : p ≤ 40) : callN P (k + 4) 11 [.lst (rows.map rowT), .str n, .int p] m = .ok (.lst (((srt rows).map (modR n p)).map rowT), false) m := by
  refine call_g (i := 11) rfl rfl rfl (up_args rfl) (m1 := []) ?_ (up_rows _)
  show exec (Cn (k + 3)) b11 [some (.lst (rows.map rowT)), some (.str n), some (.int p), none, none, none, none] [] = _
  rw [b11_eq, x_seq (x_set (call_fa h rfl))]
  show exec (Cn (k + 3)) _ [some (.lst (rows.map rowT)), some (.str n), some (.int p), some (.lst ((srt rows).map rowT)), none, none, none] [] = _
  have e := s_notin (C := Cn (k + 3)) (a := .var 1) (env := [some (.lst (rows.map rowT)), some (.str n), some (.int p), some (.lst ((srt rows).map rowT)), none, none, none]) (m := []) (d_var rfl) (names11_ok h)
  rw [List.contains_iff_mem.mpr hn] at e
  unfold if11
  rw [x_seq (x_ifF e rfl), x_seq (x_expr (chk (k := k + 1) rfl p0 p1))]
  exact x_ret (mod11_ok h)
theorem changed_bad (k : Nat) (m : Store) {rows : List Row} {n : Nm} {t : T} (h : Farms rows) (hn : n ∈ nms rows) (hb : Bad t) : callN P (k + 4) 11 [.lst (rows.map rowT), .str n, t] m = .exc 2 [] m := by
  refine call_gx (i := 11) rfl rfl rfl (up_args (by show (true && (T.upTo 0 t && true)) = true; rw [up_bad hb]; rfl)) (m1 := []) (env := [some (.lst (rows.map rowT)), some (.str n), some t, some (.lst ((srt rows).map rowT)), none, none, none]) ?_
  show exec (Cn (k + 3)) b11 [some (.lst (rows.map rowT)), some (.str n), some t, none, none, none, none] [] = _
  rw [b11_eq, x_seq (x_set (call_fa h rfl))]
  show exec (Cn (k + 3)) _ [some (.lst (rows.map rowT)), some (.str n), some t, some (.lst ((srt rows).map rowT)), none, none, none] [] = _
  have e := s_notin (C := Cn (k + 3)) (a := .var 1) (env := [some (.lst (rows.map rowT)), some (.str n), some t, some (.lst ((srt rows).map rowT)), none, none, none]) (m := []) (d_var rfl) (names11_ok h)
  rw [List.contains_iff_mem.mpr hn] at e
  unfold if11
  rw [x_seq (x_ifF e rfl)]
  exact x_seqX (x_exprX (chkX (k := k + 1) rfl hb))
theorem changed_unknown (k : Nat) (m : Store) {rows : List Row} {n : Nm} {t : T} (h : Farms rows) (hn : n ∉ nms rows) (hu : T.upTo 0 t = true) : callN P (k + 4) 11 [.lst (rows.map rowT), .str n, t] m = .exc 4 [] m := by
  refine call_gx (i := 11) rfl rfl rfl (up_args (by show (true && (T.upTo 0 t && true)) = true; rw [hu]; rfl)) (m1 := []) (env := [some (.lst (rows.map rowT)), some (.str n), some t, some (.lst ((srt rows).map rowT)), none, none, none]) ?_
  show exec (Cn (k + 3)) b11 [some (.lst (rows.map rowT)), some (.str n), some t, none, none, none, none] [] = _
  rw [b11_eq, x_seq (x_set (call_fa h rfl))]
  show exec (Cn (k + 3)) _ [some (.lst (rows.map rowT)), some (.str n), some t, some (.lst ((srt rows).map rowT)), none, none, none] [] = _
  have e := s_notin (C := Cn (k + 3)) (a := .var 1) (env := [some (.lst (rows.map rowT)), some (.str n), some t, some (.lst ((srt rows).map rowT)), none, none, none]) (m := []) (d_var rfl) (names11_ok h)
  rw [notc hn] at e
  unfold if11
  refine x_seqX ?_
  rw [x_iteT (d_test e rfl)]
  exact x_raise ev_cst
/-! ### who cannot have joined -/
abbrev ev5 (rows : List Row) (l : List Nm) (x4 : Option T) : Env := [some (.lst (rows.map rowT)), some (LS l), some (LS (nms rows)), none, x4]
theorem for5 {C : Ctx} {rows : List Row} {l : List Nm} (hl : l.length ≤ 2) : exec C (.for (.one 4) (.rng (.callB .len (.cons (.var 1) .nil))) body5) (ev5 rows l none) [] = forLoop ⟨upFrom 0 l.length, none, false⟩ (fun t env m => (Res.ofO ((Tgt.one 4).set m t env) m).out env fun env m => exec C body5 env m) (upFrom 0 l.length) (ev5 rows l none) [] := by
  rw [ex_for, r_one (len_map (l := l) (f := T.str) (d_var rfl)) (by omega) (by omega), Res.out_ok, Int.toNat_natCast]
theorem joinX {k c : Nat} {m : Store} {rows : List Row} {l : List Nm} {x4 : Option T} (h : Farms rows) (hl : l.length ≤ 2) (hf : forLoop ⟨upFrom 0 l.length, none, false⟩ (fun t env m => (Res.ofO ((Tgt.one 4).set m t env) m).out env fun env m => exec (Cn (k + 3)) body5 env m) (upFrom 0 l.length) (ev5 rows l none) [] = .exc c [] (ev5 rows l x4) []) :
    callN P (k + 4) 5 [.lst (rows.map rowT), LS l] m = .exc c [] m := by
  refine call_gx (i := 5) rfl rfl rfl (up_args2 rfl) (m1 := []) (env := ev5 rows l x4) ?_
  show exec (Cn (k + 3)) b5 [some (.lst (rows.map rowT)), some (LS l), none, none, none] [] = _
  rw [b5_eq, x_seq (x_set (known_ok h))]
  show exec (Cn (k + 3)) _ (ev5 rows l none) [] = _
  exact x_seqX (by rw [for5 hl]; exact hf)
theorem joined_unknown (k : Nat) (m : Store) {rows : List Row} {n : Nm} (h : Farms rows) (hn : n ∉ nms rows) : callN P (k + 4) 5 [.lst (rows.map rowT), LS [n]] m = .exc 4 [] m := by
  refine joinX (x4 := some (.int 0)) h (by simp) ?_
  refine forL_exc rfl ?_
  show exec (Cn (k + 3)) body5 (ev5 rows [n] (some (.int 0))) [] = _
  have c1 := s_notin (C := Cn (k + 3)) (m := []) (at_name (C := Cn (k + 3)) (m := []) (l := [n]) (p := 0) (n := n) (env := ev5 rows [n] (some (.int 0))) (i := 1) (j := 4) rfl rfl rfl) (d_var (i := 2) (t := LS (nms rows)) rfl)
  rw [notc hn] at c1
  unfold body5 c5a
  refine x_seqX ?_
  rw [x_iteT (d_test c1 rfl)]
  exact x_raise ev_cst
theorem joined_twice (k : Nat) (m : Store) {rows : List Row} {n : Nm} (h : Farms rows) (hn : n ∈ nms rows) : callN P (k + 4) 5 [.lst (rows.map rowT), LS [n, n]] m = .exc 3 [] m := by
  refine joinX (x4 := some (.int 1)) h (by simp) ?_
  have c1 (p : Nat) (hp : [n, n][p]? = some n) := s_notin (C := Cn (k + 3)) (m := []) (at_name (C := Cn (k + 3)) (m := []) (l := [n, n]) (p := p) (n := n) (env := ev5 rows [n, n] (some (.int p))) (i := 1) (j := 4) rfl rfl hp) (d_var (i := 2) (t := LS (nms rows)) rfl)
  have c2 (p : Nat) (hp : [n, n][p]? = some n) := s_in (C := Cn (k + 3)) (m := []) (m1 := []) (m2 := []) (a := .idx (.var 1) (.var 4)) (b := .slice (.var 1) (.cst .non) (.var 4)) (l := [n, n].take p) (at_name (C := Cn (k + 3)) (m := []) (l := [n, n]) (p := p) (n := n) (env := ev5 rows [n, n] (some (.int p))) (i := 1) (j := 4) rfl rfl hp) (by rw [List.map_take]; exact l_take (d_var rfl) (d_var rfl))
  have c10 := c1 0 rfl
  have c11 := c1 1 rfl
  have c20 := c2 0 rfl
  have c21 := c2 1 rfl
  rw [List.contains_iff_mem.mpr hn] at c10 c11
  rw [show ([n, n].take 1).contains n = true from List.contains_iff_mem.mpr (by simp)] at c21
  rw [show ([n, n].take 0).contains n = false from rfl] at c20
  show forLoop _ _ [.int 0, .int 1] _ _ = _
  rw [forL_nxt rfl (e1 := ev5 rows [n, n] (some (.int 0))) (m1 := [])]
  · refine forL_exc rfl ?_
    show exec (Cn (k + 3)) body5 (ev5 rows [n, n] (some (.int ((1 : Nat) : Int)))) [] = .exc 3 [] (ev5 rows [n, n] (some (.int ((1 : Nat) : Int)))) []
    unfold body5 c5a c5b
    rw [x_seq (x_ifF c11 rfl), x_iteT (d_test c21 rfl)]
    exact x_raise (at_name (C := Cn (k + 3)) (m := []) (l := [n, n]) (p := 1) (n := n) (env := ev5 rows [n, n] (some (.int 1))) (i := 1) (j := 4) rfl rfl rfl)
  · show exec (Cn (k + 3)) body5 (ev5 rows [n, n] (some (.int ((0 : Nat) : Int)))) [] = .nxt (ev5 rows [n, n] (some (.int ((0 : Nat) : Int)))) []
    unfold body5 c5a c5b
    rw [x_seq (x_ifF c10 rfl)]
    exact x_ifF c20 rfl
theorem steps_bad (k : Nat) (m : Store) {rows : List Row} {l : List Nm} {c : Nat} (hj : ∀ m, callN P (k + 4) 5 [.lst (rows.map rowT), LS l] m = .exc c [] m) : callN P (k + 5) 7 [.lst (rows.map rowT), LS l] m = .exc c [] m := by
  refine call_gx (i := 7) rfl rfl rfl (up_args2 rfl) (m1 := []) (env := [some (.lst (rows.map rowT)), some (LS l), none, none]) ?_
  show exec (Cn (k + 4)) b7 [some (.lst (rows.map rowT)), some (LS l), none, none] [] = _
  rw [b7_eq]
  refine x_seqX ?_
  have e := c_callX (P := P) (k := k + 4) (f := 5) (env := [some (.lst (rows.map rowT)), some (LS l), none, none]) (m := []) (args := .cons (.var 0) (.cons (.var 1) .nil)) (ds_cons (d_var rfl) (ds_cons (d_var rfl) ds_nil)) (hj [])
  show (evalNew (Cn (k + 4)) (.list (.cons (.callF 5 (.cons (.var 0) (.cons (.var 1) .nil)) []) .nil)) _ _).out _ _ = _
  have e2 : evalNew (Cn (k + 4)) (.list (.cons (.callF 5 (.cons (.var 0) (.cons (.var 1) .nil)) []) .nil)) [some (.lst (rows.map rowT)), some (LS l), none, none] [] = .exc c [] [] := by
    show ((evals (Cn (k + 4)) (.cons (.callF 5 (.cons (.var 0) (.cons (.var 1) .nil)) []) .nil) _ _).bind shortL).bind _ = _
    rw [evs_cons, e]; rfl
  rw [e2]; rfl
theorem judge_bad (k : Nat) (m : Store) {rows : List Row} {l : List Nm} {c : Nat} (h : Farms rows) (hj : ∀ m, callN P (k + 4) 5 [.lst ((srt rows).map rowT), LS l] m = .exc c [] m) : callN P (k + 5) 10 [.lst (rows.map rowT), LS l] m = .exc c [] m := by
  refine call_gx (i := 10) rfl rfl rfl (up_args2 rfl) (m1 := []) (env := [some (.lst (rows.map rowT)), some (LS l), some (.lst ((srt rows).map rowT)), none]) ?_
  show exec (Cn (k + 4)) b10 [some (.lst (rows.map rowT)), some (LS l), none, none] [] = _
  unfold b10
  rw [x_seq (x_set (call_fa h rfl))]
  show exec (Cn (k + 4)) _ [some (.lst (rows.map rowT)), some (LS l), some (.lst ((srt rows).map rowT)), none] [] = _
  have e := c_callX (P := P) (k := k + 4) (f := 5) (env := [some (.lst (rows.map rowT)), some (LS l), some (.lst ((srt rows).map rowT)), none]) (m := []) (args := .cons (.var 2) (.cons (.var 1) .nil)) (ds_cons (d_var rfl) (ds_cons (d_var rfl) ds_nil)) (hj [])
  exact x_seqX (by rw [ex_set, e]; rfl)
end K69
end

section
set_option Elab.async false
set_option linter.all false
set_option maxRecDepth 100000
set_option maxHeartbeats 0
namespace K69
open MP
open MP (S E T EL It)
/-! ### names -/
def nobody : Nm := ['n', 'o', 'b', 'o', 'd', 'y', 'h', 'e', 'r', 'e']
theorem f14 : P.fns[14]? = some ⟨2, 5, false, drawS⟩ := rfl
theorem f15 : P.fns[15]? = some ⟨2, 2, false, pickS 14⟩ := rfl
theorem d_rng {C : Ctx} {env : Env} {m : Store} {a : E} {j : Int} (h : eval C a env m = .ok (.int j) m) : evalI C (.rng a) env m = if rngOk j then .ok ⟨upFrom 0 j.toNat, none, false⟩ m else .stuck := by
  show (eval C a env m).bind _ = _
  rw [h]; rfl
theorem sp_draw {ns : List Int} {n k s : Nat} {env : Env} {m : Store} (he : env.get s = some (.obj 0)) (h : SP ns n m) {a : E} {many : Int} (ha : eval (Cn (k + 1)) a env m = .ok (.int many) m) (hn : 1 ≤ many) (hx : many < 1073741824) :
    ∃ v m', 0 ≤ v ∧ v < many ∧ SP ns n m' ∧ (∀ j, j ≠ 0 → m'[j]? = m[j]?) ∧ eval (Cn (k + 1)) (.callF 14 (.cons (.var s) (.cons a .nil)) []) env m = .ok (.int v) m' := by
  obtain ⟨v, c, h1, h2, h3, h4⟩ := draw_at f14 he h ha hn hx
  exact ⟨v, _, h1, h2, h.put h3, fun j hj => List.getElem?_set_ne (Ne.symm hj), h4⟩
theorem lets_len : letters.length = 26 := rfl
/-- the letter of a number -/
def L (i : Int) : Char := letters[(i.fmod 26).toNat]?.getD 'a'
theorem L_mem (i : Int) : L i ∈ letters := by
  unfold L
  have h0 := Int.fmod_nonneg_of_pos i (b := 26) (by decide)
  have h1 := Int.fmod_lt_of_pos i (b := 26) (by decide)
  have : (i.fmod 26).toNat < letters.length := by rw [lets_len]; omega
  rw [List.getElem?_eq_getElem this]
  exact List.getElem_mem this
theorem L_idx {m : Store} (i : Int) : idxT m (.str letters) (.int (i.fmod 26)) = some (.str [L i]) := by
  have h0 := Int.fmod_nonneg_of_pos i (b := 26) (by decide)
  have h1 := Int.fmod_lt_of_pos i (b := 26) (by decide)
  have hj : (i.fmod 26).toNat < letters.length := by rw [lets_len]; omega
  show (if letters.length ≤ LINE then ((ixT letters.length (i.fmod 26)).bind fun j => letters[j]?).map (fun c => T.str [c]) else none) = _
  rw [if_pos (by decide)]
  unfold ixT
  rw [if_pos h0, if_pos (by rw [lets_len]; omega)]
  show (letters[(i.fmod 26).toNat]?).map (fun c => T.str [c]) = _
  unfold L
  rw [List.getElem?_eq_getElem hj]; rfl
theorem lets_inj : ∀ i : Fin 26, ∀ j : Fin 26, letters[i.1]? = letters[j.1]? → i = j := by decide
theorem L_inj {f : Int} {i j : Nat} (hi : i < 6) (hj : j < 6) (h : L (f + i) = L (f + j)) : i = j := by
  have a0 := Int.fmod_nonneg_of_pos (f + i) (b := 26) (by decide)
  have a1 := Int.fmod_lt_of_pos (f + i) (b := 26) (by decide)
  have b0 := Int.fmod_nonneg_of_pos (f + j) (b := 26) (by decide)
  have b1 := Int.fmod_lt_of_pos (f + j) (b := 26) (by decide)
  have ha : ((f + i).fmod 26).toNat < 26 := by omega
  have hb : ((f + j).fmod 26).toNat < 26 := by omega
  unfold L at h
  have e : letters[((f + i).fmod 26).toNat]? = letters[((f + j).fmod 26).toNat]? := by
    rw [List.getElem?_eq_getElem (show _ < letters.length from ha), List.getElem?_eq_getElem (show _ < letters.length from hb)] at h ⊢
    simpa using h
  have q := lets_inj ⟨_, ha⟩ ⟨_, hb⟩ e
  have q' : ((f + i).fmod 26).toNat = ((f + j).fmod 26).toNat := congrArg (fun x : Fin 26 => x.1) q
  rw [Int.fmod_eq_emod_of_nonneg _ (by decide)] at q' a0 a1
  rw [Int.fmod_eq_emod_of_nonneg _ (by decide)] at q' b0 b1
  omega
/-- a name with a double letter at a place -/
def nameAt (s : Nm) (a : Nat) (c : Char) : Nm := s.take a ++ ([c, c] ++ s.drop a)
theorem nameAt_len {s : Nm} {a : Nat} {c : Char} (h : a ≤ s.length) : (nameAt s a c).length = s.length + 2 := by
  unfold nameAt
  simp; omega
theorem nameAt_good {s : Nm} {a : Nat} {c : Char} (h : a ≤ s.length) (hs : s.length ≤ 10) (hl : ∀ x ∈ s, x ∈ letters) (hc : c ∈ letters) : Good (nameAt s a c) := by
  refine ⟨by rw [nameAt_len h]; omega, by rw [nameAt_len h]; omega, fun x hx => ?_⟩
  unfold nameAt at hx
  simp only [List.mem_append, List.mem_cons, List.not_mem_nil, or_false] at hx
  rcases hx with hx | (rfl | rfl) | hx
  · exact hl x (List.mem_of_mem_take hx)
  · exact hc
  · exact hc
  · exact hl x (List.mem_of_mem_drop hx)
theorem nameAt_at {s : Nm} {a : Nat} {c : Char} (h : a ≤ s.length) : (nameAt s a c)[a]? = some c ∧ (nameAt s a c)[a + 1]? = some c := by
  unfold nameAt
  have hl : (s.take a).length = a := by rw [List.length_take]; omega
  constructor
  · rw [List.getElem?_append_right (by omega), hl, Nat.sub_self]; rfl
  · rw [List.getElem?_append_right (by omega), hl, show a + 1 - a = 1 by omega]; rfl
theorem nobody_no : ∀ a : Fin 9, nobody[a.1]? ≠ nobody[a.1 + 1]? := by decide
theorem nameAt_nobody {s : Nm} {a : Nat} {c : Char} (h : a ≤ s.length) : nameAt s a c ≠ nobody := by
  intro e
  obtain ⟨h1, h2⟩ := nameAt_at (s := s) (c := c) h
  rw [e] at h1 h2
  by_cases ha : a < 9
  · exact nobody_no ⟨a, ha⟩ (h1.trans h2.symm)
  · have : nobody[a + 1]? = none := List.getElem?_eq_none (by show 10 ≤ a + 1; omega)
    rw [this] at h2; cases h2
structure Names (l : List Nm) : Prop where
  good : ∀ n ∈ l, Good n
  nd : l.Nodup
  no : nobody ∉ l
  len : l.length = 6
theorem nodup_range {α : Type} {g : Nat → α} {n : Nat} (h : ∀ i j, i < n → j < n → g i = g j → i = j) : ((List.range n).map g).Nodup := by
  unfold List.Nodup
  rw [List.pairwise_map]
  refine List.Pairwise.imp_of_mem ?_ (List.nodup_range (n := n))
  intro a b ha hb hab e
  exact hab (h a b (List.mem_range.mp ha) (List.mem_range.mp hb) e)
theorem names_one (f : Int) : Names ((List.range 6).map fun j => [L (f + (j : Nat))]) := by
  refine ⟨fun n hn => ?_, nodup_range fun i j hi hj e => L_inj hi hj (by simpa using e), fun hn => ?_, by simp⟩
  · obtain ⟨j, _, rfl⟩ := List.mem_map.mp hn
    exact ⟨by simp, by simp, fun c hc => by simp only [List.mem_cons, List.not_mem_nil, or_false] at hc; rw [hc]; exact L_mem _⟩
  · obtain ⟨j, _, e⟩ := List.mem_map.mp hn
    have := congrArg List.length e
    simp [nobody] at this
theorem names_two {s : Nm} {a : Nat} (f : Int) (h : a ≤ s.length) (hs : s.length ≤ 10) (hl : ∀ x ∈ s, x ∈ letters) : Names ((List.range 6).map fun j => nameAt s a (L (f + (j : Nat)))) := by
  refine ⟨fun n hn => ?_, nodup_range fun i j hi hj e => ?_, fun hn => ?_, by simp⟩
  · obtain ⟨j, _, rfl⟩ := List.mem_map.mp hn
    exact nameAt_good h hs hl (L_mem _)
  · have h1 := (nameAt_at (s := s) (c := L (f + i)) h).1
    have h2 := (nameAt_at (s := s) (c := L (f + j)) h).1
    rw [e, h2] at h1
    exact (L_inj hj hi (by simpa using h1)).symm
  · obtain ⟨j, _, e⟩ := List.mem_map.mp hn
    exact nameAt_nobody h e
theorem upFrom_map : ∀ (n : Nat) (lo : Int), upFrom lo n = (List.range n).map fun (i : Nat) => T.int (lo + i) := upFrom_eq
theorem compL_step {w : Walk} {f : T → Store → Res (Option T)} {t y : T} {r ys : List T} {m m1 m2 : Store} (hw : w.at? = none) (h : f t m = .ok (some y) m1) (hr : compL w f r m1 = .ok ys m2) : compL w f (t :: r) m = .ok (y :: ys) m2 := by
  conv => lhs; unfold compL
  rw [if_pos (wok_none hw), h]
  simp only [hr]
/-! the draws of a word -/
def letE : E := .idx (.var 2) (.callF 14 (.cons (.var 0) (.cons (.cst (.int 26)) .nil)) [])
theorem word_comp {ns : List Int} {n k : Nat} {w : Walk} (hw : w.at? = none) {env : Env} (h0 : env.get 0 = some (.obj 0)) (h2 : env.get 2 = some (.str letters)) (hl : 4 < env.length) : ∀ (xs : List T) (m : Store), SP ns n m → ∃ (cs : List Char) (m' : Store), cs.length = xs.length ∧ (∀ c ∈ cs, c ∈ letters) ∧ SP ns n m' ∧ (∀ j, j ≠ 0 → m'[j]? = m[j]?) ∧
    compL w (fun t m => (Res.ofO ((Tgt.one 4).set m t (wipe env [4])) m).bind fun env m => (eval (Cn (k + 1)) (.cst (.bl true)) env m).bind fun x m => (Res.ofO (truth m x) m).bind fun r m => if r then (eval (Cn (k + 1)) letE env m).bind fun y m => .ok (some y) m else .ok none m) xs m = .ok (cs.map fun c => T.str [c]) m'
  | [], m, h => ⟨[], m, rfl, (fun _ h => absurd h (by simp)), h, (fun _ _ => rfl), by unfold compL; rw [if_pos (wok_none hw)]; rfl⟩
  | t :: xs, m, h => by
    have e0 : Env.get ((env.set 4 none).set 4 (some t)) 0 = some (.obj 0) := by rw [set_get_ne (by decide), set_get_ne (by decide)]; exact h0
    have e2 : Env.get ((env.set 4 none).set 4 (some t)) 2 = some (.str letters) := by rw [set_get_ne (by decide), set_get_ne (by decide)]; exact h2
    obtain ⟨v, m1, v0, v1, s1, g1, ev⟩ := sp_draw (k := k) e0 h (a := .cst (.int 26)) ev_cst (by decide) (by decide)
    obtain ⟨cs, m2, l1, l2, s2, g2, q⟩ := word_comp hw h0 h2 hl xs m1 s1
    refine ⟨L v :: cs, m2, by simp [l1], fun c hc => ?_, s2, fun j hj => (g2 j hj).trans (g1 j hj), ?_⟩
    · rcases List.mem_cons.mp hc with rfl | hc
      · exact L_mem v
      · exact l2 c hc
    · have turn : (Res.ofO ((Tgt.one 4).set m t (wipe env [4])) m).bind (fun env m => (eval (Cn (k + 1)) (.cst (.bl true)) env m).bind fun x m => (Res.ofO (truth m x) m).bind fun r m => if r then (eval (Cn (k + 1)) letE env m).bind fun y m => .ok (some y) m else .ok none m) = .ok (some (.str [L v])) m1 := by
        show (eval (Cn (k + 1)) letE ((env.set 4 none).set 4 (some t)) m).bind _ = _
        have : eval (Cn (k + 1)) letE ((env.set 4 none).set 4 (some t)) m = .ok (.str [L v]) m1 := by
          unfold letE
          refine d_idx (d_var e2) ev ?_
          have := L_idx (m := m1) v
          rwa [Int.fmod_eq_emod_of_nonneg _ (by decide), Int.emod_eq_of_lt v0 v1] at this
        rw [this]; rfl
      exact compL_step hw turn q
theorem strsOf_one : ∀ cs : List Char, strsOf (cs.map fun c => T.str [c]) = some (cs.map fun c => [c])
  | [] => rfl
  | c :: cs => by show (strsOf (cs.map fun c => T.str [c])).map ([c] :: ·) = _; rw [strsOf_one cs]; rfl
theorem join_one : ∀ cs : List Char, joinT [] (cs.map fun c => [c]) = cs
  | [] => rfl
  | [c] => rfl
  | c :: d :: cs => by
    show [c] ++ ([] ++ joinT [] ((d :: cs).map fun c => [c])) = _
    rw [join_one (d :: cs)]; rfl
theorem join_word {m : Store} {cs : List Char} (h : cs.length ≤ 10) : methT m .join (.str []) [.lst (cs.map fun c => T.str [c])] = some (.str cs) := by
  show (strsOf (cs.map fun c => T.str [c])).bind (fun l => if (l.map List.length).sum + l.length * ([] : Nm).length ≤ LINE then some (T.str (joinT [] l)) else none) = _
  rw [strsOf_one]
  show (if ((cs.map fun c => [c]).map List.length).sum + (cs.map fun c => [c]).length * 0 ≤ LINE then some (T.str (joinT [] (cs.map fun c => [c]))) else none) = _
  have : ((cs.map fun c => [c]).map List.length).sum = cs.length := by
    rw [List.map_map]
    clear h
    induction cs with
    | nil => rfl
    | cons c cs ih => rw [List.map_cons, List.sum_cons, ih]; simp; omega
  rw [this, if_pos (by have : 10 ≤ LINE := by decide
                       omega), join_one]
theorem cut_lo {α : Type} (s : List α) (a : Nat) (h : a ≤ s.length) : cutT s none (some (a : Int)) = s.take a := by
  unfold cutT cutB
  simp only
  rw [if_neg (by omega), Int.toNat_natCast, List.drop_zero, Nat.min_eq_left h, Nat.sub_zero]
theorem cut_hi {α : Type} (s : List α) (a : Nat) (h : a ≤ s.length) : cutT s (some (a : Int)) none = s.drop a := by
  unfold cutT cutB
  simp only
  rw [if_neg (by omega), Int.toNat_natCast, Nat.min_eq_left h]
  exact List.take_of_length_le (by rw [List.length_drop]; omega)
end K69
end

section
set_option Elab.async false
set_option linter.all false
set_option maxRecDepth 100000
set_option maxHeartbeats 0
namespace K69
open MP
open MP (S E T EL It)
theorem ev_slice {C : Ctx} {env : Env} {m : Store} {a lo hi : E} : eval C (.slice a lo hi) env m = (eval C a env m).bind fun x m => (eval C lo env m).bind fun l m => (Res.ofO (toPart l) m).bind fun i m =>
      (eval C hi env m).bind fun h m => (Res.ofO (toPart h) m).bind fun j m => .ofO (sliceT m x i j) m := rfl
theorem d_slice {C : Ctx} {env : Env} {m m1 m2 m3 : Store} {a lo hi : E} {x l h y : T} {i j : Option Int} (ha : eval C a env m = .ok x m1) (hlo : eval C lo env m1 = .ok l m2) (hi' : toPart l = some i) (hhi : eval C hi env m2 = .ok h m3) (hj : toPart h = some j) (hs : sliceT m3 x i j = some y) : eval C (.slice a lo hi) env m = .ok y m3 := by
  rw [ev_slice, ha, Res.bind_ok, hlo, Res.bind_ok, hi', Res.ofO_some, Res.bind_ok, hhi, Res.bind_ok, hj, Res.ofO_some, Res.bind_ok, hs]; rfl
theorem add_str {m : Store} {a b : Nm} (h : a.length + b.length ≤ 100) : bopT m .add (.str a) (.str b) = some (.str (a ++ b)) := by
  show (if a.length + b.length ≤ LINE then some (T.str (a ++ b)) else none) = _
  rw [if_pos (Nat.le_trans h (by decide))]
theorem slice_str {m : Store} {s : Nm} {i j : Option Int} (h : s.length ≤ 100) : sliceT m (.str s) i j = some (.str (cutT s i j)) := by
  show (if s.length ≤ LINE then some (T.str (cutT s i j)) else none) = _
  rw [if_pos (Nat.le_trans h (by decide))]
def body16 : S := .seq (.set 8 (.bin .add (.idx (.var 2) (.bin .mod (.callB .int (.cons (.bin .add (.var 3) (.var 4)) .nil)) (.cst (.int 26)))) (.idx (.var 2) (.bin .mod (.callB .int (.cons (.bin .add (.bin .add (.var 3) (.bin .mul (.bin .fdiv (.var 4) (.cst (.int 26))) (.cst (.int 7)))) (.var 4)) .nil)) (.cst (.int 26)))))) (.expr (.mut .append (.var 7) (.cons (.bin .add (.bin .add (.slice (.var 5) (.cst .non) (.var 6)) (.var 8)) (.slice (.var 5) (.var 6) (.cst .non))) .nil)))
def ret1 : S := .ret (.comp [4] (.one 4) (.rng (.var 1)) (.cst (.bl true)) (.idx (.var 2) (.bin .mod (.callB .int (.cons (.bin .add (.var 3) (.var 4)) .nil)) (.cst (.int 26)))))
def joinE : E := .meth .join (.cst (.str [])) (.cons (.comp [4] (.one 4) (.rng (.callF 14 (.cons (.var 0) (.cons (.cst (.int 11)) .nil)) [])) (.cst (.bl true)) letE) .nil)
def cond16 : E := .and (.cmp .le (.var 1) (.cst (.int 26))) (.cmp .eq (.callF 14 (.cons (.var 0) (.cons (.cst (.int 3)) .nil)) []) (.cst (.int 0)))
theorem b16_eq : b16 = .seq (.set 2 (.cst (.str letters))) (.seq (.set 3 (.callF 14 (.cons (.var 0) (.cons (.cst (.int 26)) .nil)) [])) (.seq (.ite cond16 ret1 .skip) (.seq (.set 5 joinE) (.seq (.set 6 (.callF 14 (.cons (.var 0) (.cons (.bin .add (.callB .len (.cons (.var 5) .nil)) (.cst (.int 1))) .nil)) [])) (.seq (.setBox 7 (.list .nil)) (.seq (.for (.one 4) (.rng (.var 1)) body16) (.retMove 7))))))) := rfl
theorem append_box {C : Ctx} {env : Env} {m0 : Store} {i : Nat} {e : E} {xs : List T} {t : T} (hi : env.get i = some (.obj m0.length)) (he : eval C e env (m0 ++ [.lst xs]) = .ok t (m0 ++ [.lst xs])) (hl : xs.length < 1000) : exec C (.expr (.mut .append (.var i) (.cons e .nil))) env (m0 ++ [.lst xs]) = .nxt env (m0 ++ [.lst (xs ++ [t])]) := by
  refine x_expr (t := .non) ?_
  have hg : (m0 ++ [Cell.lst xs])[m0.length]? = some (.lst xs) := by rw [List.getElem?_append_right (Nat.le_refl _), Nat.sub_self]; rfl
  have ho : eval C (.var i) env (m0 ++ [.lst xs]) = .ok (.obj m0.length) (m0 ++ [.lst xs]) := d_var hi
  have ok : mtOk (m0 ++ [.lst xs]) .append (.obj m0.length) = true := by
    show (vwL (m0 ++ [.lst xs]) (.obj m0.length)).isSome = true
    show (match (m0 ++ [Cell.lst xs])[m0.length]? with | some (.lst xs) => some xs | _ => none).isSome = true
    rw [hg]; rfl
  show (eval C (.var i) env (m0 ++ [.lst xs])).bind (fun x m => if mtOk m .append x then (evals C (.cons e .nil) env m).bind fun xs m => mutR m .append x xs else .stuck) = _
  rw [ho, Res.bind_ok, if_pos ok, ds_cons he ds_nil, Res.bind_ok]
  show (match (m0 ++ [Cell.lst xs])[m0.length]? with
    | some c => (match mutT (m0 ++ [Cell.lst xs]) .append c [t] with
      | some (y, c) => Res.ok y ((m0 ++ [Cell.lst xs]).set m0.length c)
      | none => .stuck)
    | none => .stuck) = _
  rw [hg]
  show (match (if xs.length < LINE then some (T.non, Cell.lst (xs ++ [t])) else none) with
      | some (y, c) => Res.ok y ((m0 ++ [Cell.lst xs]).set m0.length c)
      | none => .stuck) = _
  rw [if_pos (Nat.lt_of_lt_of_le hl (by decide))]
  show Res.ok T.non ((m0 ++ [Cell.lst xs]).set m0.length (.lst (xs ++ [t]))) = _
  rw [List.set_append_right _ _ (Nat.le_refl _), Nat.sub_self]; rfl
section
variable {k a : Nat} {f : Int} {s : Nm} {m0 : Store}
theorem turnN {done : List Nm} {j : Nat} {x8 : Option T} (hj : j < 26) (ha : a ≤ s.length) (hs : s.length ≤ 10) (hd : done.length < 100) :
    exec (Cn k) body16 [some (.obj 0), some (.int 6), some (.str letters), some (.int f), some (.int j), some (.str s), some (.int a), some (.obj m0.length), x8] (m0 ++ [.lst (done.map T.str)]) =
      .nxt [some (.obj 0), some (.int 6), some (.str letters), some (.int f), some (.int j), some (.str s), some (.int a), some (.obj m0.length), some (.str [L (f + j), L (f + j)])] (m0 ++ [.lst ((done ++ [nameAt s a (L (f + j))]).map T.str)]) := by
  unfold body16
  have e1 : eval (Cn k) (.bin .add (.idx (.var 2) (.bin .mod (.callB .int (.cons (.bin .add (.var 3) (.var 4)) .nil)) (.cst (.int 26)))) (.idx (.var 2) (.bin .mod (.callB .int (.cons (.bin .add (.bin .add (.var 3) (.bin .mul (.bin .fdiv (.var 4) (.cst (.int 26))) (.cst (.int 7)))) (.var 4)) .nil)) (.cst (.int 26))))) [some (.obj 0), some (.int 6), some (.str letters), some (.int f), some (.int j), some (.str s), some (.int a), some (.obj m0.length), x8] (m0 ++ [.lst (done.map T.str)]) = .ok (.str [L (f + j), L (f + j)]) (m0 ++ [.lst (done.map T.str)]) := by
    have z : ((j : Int)).fdiv 26 = 0 := by rw [Int.fdiv_eq_ediv_of_nonneg _ (by decide)]; omega
    have l2 := L_idx (m := m0 ++ [.lst (done.map T.str)]) (f + ((j : Int)).fdiv 26 * 7 + j)
    refine b_op (x := .str [L (f + j)]) (y := .str [L (f + j)]) (d_idx (d_var rfl) (d_mod (int_int (d_add (d_var rfl) (d_var rfl))) ev_cst (by decide)) (L_idx _)) (d_idx (d_var rfl) (d_mod (int_int (d_add (d_add (d_var rfl) (d_mul (d_fdiv (d_var rfl) ev_cst (by decide)) ev_cst (by rw [z]; rfl))) (d_var rfl))) ev_cst (by decide)) (l2.trans ?_)) (add_str (by simp))
    rw [z, Int.zero_mul, Int.add_zero]
  rw [x_seq (x_set e1)]
  show exec (Cn k) _ [some (.obj 0), some (.int 6), some (.str letters), some (.int f), some (.int j), some (.str s), some (.int a), some (.obj m0.length), some (.str [L (f + j), L (f + j)])] _ = _
  have e2 : eval (Cn k) (.bin .add (.bin .add (.slice (.var 5) (.cst .non) (.var 6)) (.var 8)) (.slice (.var 5) (.var 6) (.cst .non))) [some (.obj 0), some (.int 6), some (.str letters), some (.int f), some (.int j), some (.str s), some (.int a), some (.obj m0.length), some (.str [L (f + j), L (f + j)])] (m0 ++ [.lst (done.map T.str)]) = .ok (.str (nameAt s a (L (f + j)))) (m0 ++ [.lst (done.map T.str)]) := by
    refine b_op (b_op (d_slice (x := .str s) (d_var rfl) ev_cst rfl (d_var (t := .int a) rfl) rfl (slice_str (by omega))) (d_var (t := .str [L (f + j), L (f + j)]) rfl) (add_str ?_)) (d_slice (x := .str s) (d_var rfl) (d_var (t := .int a) rfl) rfl ev_cst rfl (slice_str (by omega))) ?_
    · rw [cut_lo s a ha, List.length_take]; simp; omega
    · rw [cut_lo s a ha, cut_hi s a ha, add_str (by simp; omega)]
      unfold nameAt
      rw [List.append_assoc]
  rw [append_box rfl e2 (by rw [List.length_map]; omega), List.map_append]
  rfl
theorem loopN {w : Walk} (hw : w.at? = none) (ha : a ≤ s.length) (hs : s.length ≤ 10) : ∀ (todo : List Nat) (done : List Nm) (x4 x8 : Option T), (∀ j ∈ todo, j < 26) → done.length + todo.length < 100 → ∃ y4 y8,
    forLoop w (fun t env m => (Res.ofO ((Tgt.one 4).set m t env) m).out env fun env m => exec (Cn k) body16 env m) (todo.map fun (j : Nat) => T.int j) [some (.obj 0), some (.int 6), some (.str letters), some (.int f), x4, some (.str s), some (.int a), some (.obj m0.length), x8] (m0 ++ [.lst (done.map T.str)]) =
      .nxt [some (.obj 0), some (.int 6), some (.str letters), some (.int f), y4, some (.str s), some (.int a), some (.obj m0.length), y8] (m0 ++ [.lst ((done ++ todo.map fun (j : Nat) => nameAt s a (L (f + j))).map T.str)])
  | [], done, x4, x8, _, _ => by
    refine ⟨x4, x8, ?_⟩
    rw [List.map_nil, List.map_nil, List.append_nil]
    unfold forLoop
    rw [if_pos (wok_none hw)]
  | j :: todo, done, x4, x8, h, hl => by
    obtain ⟨y4, y8, q⟩ := loopN hw ha hs todo (done ++ [nameAt s a (L (f + j))]) (some (.int j)) (some (.str [L (f + j), L (f + j)])) (fun x hx => h x (List.mem_cons_of_mem _ hx)) (by simp at hl ⊢; omega)
    refine ⟨y4, y8, ?_⟩
    have t := turnN (k := k) (f := f) (m0 := m0) (x8 := x8) (done := done) (h j (List.mem_cons_self ..)) ha hs (by simp at hl; omega)
    rw [List.map_cons, forL_nxt hw t, q]
    simp
end
theorem d_rng' {C : Ctx} {env : Env} {m m1 : Store} {a : E} {j : Int} (h : eval C a env m = .ok (.int j) m1) : evalI C (.rng a) env m = if rngOk j then .ok ⟨upFrom 0 j.toNat, none, false⟩ m1 else .stuck := by
  show (eval C a env m).bind _ = _
  rw [h]; rfl
theorem ev_meth {C : Ctx} {env : Env} {m : Store} {f : Mt} {o : E} {args : EL} : eval C (.meth f o args) env m = (eval C o env m).bind fun x m => if mtOk m f x then (evals C args env m).bind fun xs m => .ofO (methT m f x xs) m else .stuck := rfl
theorem sp_app {ns : List Int} {n : Nat} {m : Store} (h : SP ns n m) (c : Cell) : SP ns (n + 1) (m ++ [c]) := by
  obtain ⟨c0, h0, hp⟩ := h.pool
  exact ⟨by simp [h.ml], c0, by rw [List.getElem?_append_left (at_lt h0)]; exact h0, hp⟩
theorem names_ok {ns : List Int} {n : Nat} (k : Nat) {m : Store} (h : SP ns n m) : ∃ (l : List Nm) (n' : Nat) (m' : Store) (b : Bool), Names l ∧ SP ns n' m' ∧ (∀ j c, j ≠ 0 → m[j]? = some c → m'[j]? = some c) ∧ callN P (k + 2) 16 [.obj 0, .int 6] m = .ok (.lst (l.map T.str), b) m' := by
  obtain ⟨f, m1, f0, f1, s1, g1, e1⟩ := sp_draw (k := k) (s := 0) (env := [some (.obj 0), some (.int 6), some (.str letters), none, none, none, none, none, none]) rfl h (a := .cst (.int 26)) ev_cst (by decide) (by decide)
  obtain ⟨v, m2, v0, v1, s2, g2, e2⟩ := sp_draw (k := k) (s := 0) (env := [some (.obj 0), some (.int 6), some (.str letters), some (.int f), none, none, none, none, none]) rfl s1 (a := .cst (.int 3)) ev_cst (by decide) (by decide)
  have cc : eval (Cn (k + 1)) cond16 [some (.obj 0), some (.int 6), some (.str letters), some (.int f), none, none, none, none, none] m1 = .ok (.bl (v == 0)) m2 := d_andT (x := .bl true) rfl rfl (d_cmp e2 ev_cst rfl)
  have start16 : exec (Cn (k + 1)) b16 [some (.obj 0), some (.int 6), none, none, none, none, none, none, none] m = exec (Cn (k + 1)) (.seq (.ite cond16 ret1 .skip) (.seq (.set 5 joinE) (.seq (.set 6 (.callF 14 (.cons (.var 0) (.cons (.bin .add (.callB .len (.cons (.var 5) .nil)) (.cst (.int 1))) .nil)) [])) (.seq (.setBox 7 (.list .nil)) (.seq (.for (.one 4) (.rng (.var 1)) body16) (.retMove 7)))))) [some (.obj 0), some (.int 6), some (.str letters), some (.int f), none, none, none, none, none] m1 := by
    rw [b16_eq, x_seq (x_set ev_cst)]
    show exec (Cn (k + 1)) _ [some (.obj 0), some (.int 6), some (.str letters), none, none, none, none, none, none] m = _
    rw [x_seq (x_set e1)]
    rfl
  by_cases hv : v = 0
  · subst hv
    refine ⟨_, n, m2, false, names_one f, s2, fun j c hj e => by rw [g2 j hj, g1 j hj]; exact e, ?_⟩
    rw [callN_f (P := P) (i := 16) rfl rfl rfl]
    show finish (exec (Cn (k + 1)) b16 [some (.obj 0), some (.int 6), none, none, none, none, none, none, none] m) = _
    have q := d_map (C := Cn (k + 1)) (env := [some (.obj 0), some (.int 6), some (.str letters), some (.int f), none, none, none, none, none]) (m := m2) (own := [4]) (tg := .one 4) (it := .rng (.var 1)) (e := .idx (.var 2) (.bin .mod (.callB .int (.cons (.bin .add (.var 3) (.var 4)) .nil)) (.cst (.int 26)))) (l := List.range 6) (f := fun (j : Nat) => T.int (0 + j)) (v := fun (j : Nat) => T.str [L (f + (0 + j))]) (d := false) (E := fun (j : Nat) => [some (.obj 0), some (.int 6), some (.str letters), some (.int f), some (.int (0 + j)), none, none, none, none])
      ((d_rng (d_var (t := .int 6) rfl)).trans rfl) (fun _ _ => rfl) (fun j _ => d_idx (d_var rfl) (d_mod (int_int (d_add (d_var rfl) (d_var rfl))) ev_cst (by decide)) (L_idx _)) (by simp [LINE])
    have q2 : exec (Cn (k + 1)) b16 [some (.obj 0), some (.int 6), none, none, none, none, none, none, none] m = .ret (.lst (((List.range 6).map fun (j : Nat) => [L (f + j)]).map T.str)) false m2 := by
      rw [start16]
      refine x_seqR ?_
      rw [x_iteT (d_test cc rfl)]
      unfold ret1
      have q3 := x_ret q
      rw [show (List.range 6).map (fun (j : Nat) => T.str [L (f + (0 + j))]) = ((List.range 6).map fun (j : Nat) => [L (f + j)]).map T.str by rw [List.map_map]; refine List.map_congr_left fun j _ => ?_; rw [Int.zero_add]; rfl] at q3
      exact q3
    rw [q2, fin_ret]
  · have hv' : (v == 0) = false := by simpa using hv
    rw [hv'] at cc
    obtain ⟨u, m3, u0, u1, s3, g3, e3⟩ := sp_draw (k := k) (s := 0) (env := [some (.obj 0), some (.int 6), some (.str letters), some (.int f), none, none, none, none, none]) rfl s2 (a := .cst (.int 11)) ev_cst (by decide) (by decide)
    obtain ⟨cs, m4, c1, c2, s4, g4, q4⟩ := word_comp (k := k) (w := ⟨upFrom 0 u.toNat, none, false⟩) rfl (env := [some (.obj 0), some (.int 6), some (.str letters), some (.int f), none, none, none, none, none]) rfl rfl (by simp) (upFrom 0 u.toNat) m3 s3
    have hcs : cs.length ≤ 10 := by
      rw [c1, upFrom_eq, List.length_map, List.length_range]; omega
    have e5 : eval (Cn (k + 1)) joinE [some (.obj 0), some (.int 6), some (.str letters), some (.int f), none, none, none, none, none] m2 = .ok (.str cs) m4 := by
      have ec : eval (Cn (k + 1)) (.comp [4] (.one 4) (.rng (.callF 14 (.cons (.var 0) (.cons (.cst (.int 11)) .nil)) [])) (.cst (.bl true)) letE) [some (.obj 0), some (.int 6), some (.str letters), some (.int f), none, none, none, none, none] m2 = .ok (.lst (cs.map fun c => T.str [c])) m4 := by
        rw [ev_comp, d_rng' e3, if_pos (by unfold rngOk; simp; omega), Res.bind_ok]
        show (compL _ _ (upFrom 0 u.toNat) m3).bind shortL = _
        rw [q4, Res.bind_ok]
        unfold shortL
        rw [if_pos (by rw [List.length_map]; exact Nat.le_trans hcs (by decide))]
      unfold joinE
      rw [ev_meth, ev_cst, Res.bind_ok, if_pos (show mtOk m2 .join (.str []) = true from rfl), ds_cons ec ds_nil, Res.bind_ok, join_word hcs]
      rfl
    obtain ⟨a', m5, a0, a1, s5, g5, e6⟩ := sp_draw (k := k) (s := 0) (env := [some (.obj 0), some (.int 6), some (.str letters), some (.int f), none, some (.str cs), none, none, none]) rfl s4 (a := .bin .add (.callB .len (.cons (.var 5) .nil)) (.cst (.int 1))) (many := (cs.length : Int) + 1)
      (d_add (d_bi1 (x := .str cs) (d_var rfl) (by show (if cs.length ≤ LINE then some (T.int cs.length) else none) = _; rw [if_pos (Nat.le_trans hcs (by decide))])) ev_cst) (by omega) (by omega)
    obtain ⟨a, rfl⟩ := Int.eq_ofNat_of_zero_le a0
    have ha : a ≤ cs.length := by omega
    obtain ⟨y4, y8, q6⟩ := loopN (k := k + 1) (f := f) (m0 := m5) (w := ⟨upFrom 0 6, none, false⟩) rfl ha hcs (List.range 6) [] none none (fun j hj => by have := List.mem_range.mp hj; omega) (by simp)
    rw [List.nil_append] at q6
    refine ⟨_, n + 1, m5 ++ [.dead], true, names_two f ha hcs c2, sp_app s5 _, fun j c hj e => ?_, ?_⟩
    · have e' : m5[j]? = some c := by rw [g5 j hj, g4 j hj, g3 j hj, g2 j hj, g1 j hj]; exact e
      rw [List.getElem?_append_left (at_lt e')]; exact e'
    · rw [callN_f (P := P) (i := 16) rfl rfl rfl]
      show finish (exec (Cn (k + 1)) b16 [some (.obj 0), some (.int 6), none, none, none, none, none, none, none] m) = _
      have q7 : exec (Cn (k + 1)) b16 [some (.obj 0), some (.int 6), none, none, none, none, none, none, none] m = .ret (.lst (((List.range 6).map fun (j : Nat) => nameAt cs a (L (f + j))).map T.str)) true (m5 ++ [.dead]) := by
        rw [start16, x_seq (x_ifF cc rfl), x_seq (x_set e5)]
        show exec (Cn (k + 1)) _ [some (.obj 0), some (.int 6), some (.str letters), some (.int f), none, some (.str cs), none, none, none] m4 = _
        rw [x_seq (x_set e6)]
        show exec (Cn (k + 1)) _ [some (.obj 0), some (.int 6), some (.str letters), some (.int f), none, some (.str cs), some (.int a), none, none] m5 = _
        rw [x_seq (show exec (Cn (k + 1)) (.setBox 7 (.list .nil)) [some (.obj 0), some (.int 6), some (.str letters), some (.int f), none, some (.str cs), some (.int a), none, none] m5 = .nxt [some (.obj 0), some (.int 6), some (.str letters), some (.int f), none, some (.str cs), some (.int a), some (.obj m5.length), none] (m5 ++ [.lst []]) from rfl)]
        have fo : exec (Cn (k + 1)) (.for (.one 4) (.rng (.var 1)) body16) [some (.obj 0), some (.int 6), some (.str letters), some (.int f), none, some (.str cs), some (.int a), some (.obj m5.length), none] (m5 ++ [.lst []]) = .nxt [some (.obj 0), some (.int 6), some (.str letters), some (.int f), y4, some (.str cs), some (.int a), some (.obj m5.length), y8] (m5 ++ [.lst (((List.range 6).map fun (j : Nat) => nameAt cs a (L (f + j))).map T.str)]) := by
          rw [ex_for, d_rng (d_var (t := .int 6) rfl), if_pos (show rngOk 6 = true from rfl), Res.out_ok]
          exact q6
        rw [x_seq fo]
        have hg : (m5 ++ [Cell.lst (((List.range 6).map fun (j : Nat) => nameAt cs a (L (f + j))).map T.str)])[m5.length]? = some (.lst (((List.range 6).map fun (j : Nat) => nameAt cs a (L (f + j))).map T.str)) := by rw [List.getElem?_append_right (Nat.le_refl _), Nat.sub_self]; rfl
        show (match ((m5 ++ [Cell.lst (((List.range 6).map fun (j : Nat) => nameAt cs a (L (f + j))).map T.str)])[m5.length]?).bind Cell.tree with | some t => Out.ret t true ((m5 ++ [Cell.lst (((List.range 6).map fun (j : Nat) => nameAt cs a (L (f + j))).map T.str)]).set m5.length .dead) | none => .stuck) = _
        rw [hg]
        show Out.ret _ true ((m5 ++ [Cell.lst (((List.range 6).map fun (j : Nat) => nameAt cs a (L (f + j))).map T.str)]).set m5.length .dead) = _
        rw [List.set_append_right _ _ (Nat.le_refl _), Nat.sub_self]; rfl
      rw [q7, fin_ret]
end K69
end

section
set_option Elab.async false
set_option linter.all false
set_option maxRecDepth 100000
set_option maxHeartbeats 0
namespace K69
open MP
open MP (S E T EL It)
structure RowsOk (rows : List Row) : Prop where
  good : ∀ r ∈ rows, Good r.1
  lo : ∀ r ∈ rows, 0 ≤ r.2
  hi : ∀ r ∈ rows, r.2 < 8
  nd : (rows.map (·.1)).Nodup
  no : nobody ∉ rows.map (·.1)
  len : rows.length ≤ 6
theorem RowsOk.farms {rows : List Row} (h : RowsOk rows) : Farms rows := ⟨h.good, h.lo, fun r hr => by have := h.hi r hr; omega, h.nd, Nat.le_trans h.len (by decide)⟩
def body17 : S := .expr (.mut .insert (.var 2) (.cons (.callF 14 (.cons (.var 0) (.cons (.bin .add (.callB .len (.cons (.var 2) .nil)) (.cst (.int 1))) .nil)) []) (.cons (.tup (.cons (.var 4) (.cons (.callF 14 (.cons (.var 0) (.cons (.bin .add (.callB .len (.cons (.var 3) .nil)) (.cst (.int 2))) .nil)) []) .nil))) .nil)))
def iter17 : E := .slice (.callF 16 (.cons (.var 0) (.cons (.var 1) .nil)) []) (.cst .non) (.callF 14 (.cons (.var 0) (.cons (.bin .add (.var 1) (.cst (.int 1))) .nil)) [])
theorem b17_eq : b17 = .seq (.setBox 2 (.list .nil)) (.seq (.set 3 iter17) (.seq (.for (.one 4) (.of (.var 3)) body17) (.retMove 2))) := rfl
theorem ins_perm {α : Type} (l : List α) (a : Nat) (x : α) : (l.take a ++ x :: l.drop a).Perm (x :: l) := by
  have := List.perm_middle (a := x) (l₁ := l.take a) (l₂ := l.drop a)
  rwa [List.take_append_drop] at this
section
variable {ns : List Int} {n k q : Nat} {tl : List Nm}
theorem turn17 {m : Store} {rows : List Row} {nm : Nm} (hw1 : tl.length ≤ 6) (h : SP ns n m) (hq : q ≠ 0) (hm : m[q]? = some (.lst (rows.map rowT))) (hl : rows.length < 100) :
    ∃ (a : Nat) (p : Int) (m' : Store), 0 ≤ p ∧ p < 8 ∧ SP ns n m' ∧ m'[q]? = some (.lst ((rows.take a ++ (nm, p) :: rows.drop a).map rowT)) ∧
      exec (Cn (k + 1)) body17 [some (.obj 0), some (.int 6), some (.obj q), some (LS tl), some (.str nm)] m = .nxt [some (.obj 0), some (.int 6), some (.obj q), some (LS tl), some (.str nm)] m' := by
  have vw : ∀ {m : Store}, m[q]? = some (.lst (rows.map rowT)) → vwL m (.obj q) = some (rows.map rowT) := fun {m} e => by
    show (match m[q]? with | some (.lst xs) => some xs | _ => none) = _
    rw [e]
  have el : eval (Cn (k + 1)) (.callB .len (.cons (.var 2) .nil)) [some (.obj 0), some (.int 6), some (.obj q), some (LS tl), some (.str nm)] m = .ok (.int rows.length) m := by
    refine d_bi1 (x := .obj q) (d_var rfl) ?_
    show (match vwL m (.obj q) with | some xs => some (T.int xs.length) | none => (vwD m (.obj q)).map fun (d : List T × List T) => T.int d.1.length) = _
    rw [vw hm]
    show some (T.int ((rows.map rowT).length : Nat)) = _
    rw [List.length_map]
  obtain ⟨a', m1, a0, a1, s1, g1, e1⟩ := sp_draw (k := k) (s := 0) (env := [some (.obj 0), some (.int 6), some (.obj q), some (LS tl), some (.str nm)]) rfl h (a := .bin .add (.callB .len (.cons (.var 2) .nil)) (.cst (.int 1))) (many := (rows.length : Int) + 1) (d_add el ev_cst) (by omega) (by omega)
  obtain ⟨p, m2, p0, p1, s2, g2, e2⟩ := sp_draw (k := k) (s := 0) (env := [some (.obj 0), some (.int 6), some (.obj q), some (LS tl), some (.str nm)]) rfl s1 (a := .bin .add (.callB .len (.cons (.var 3) .nil)) (.cst (.int 2))) (many := (tl.length : Int) + 2) (d_add (len_map (l := tl) (f := T.str) (d_var rfl)) ev_cst) (by omega) (by omega)
  obtain ⟨a, rfl⟩ := Int.eq_ofNat_of_zero_le a0
  have hm2 : m2[q]? = some (.lst (rows.map rowT)) := by rw [g2 q hq, g1 q hq]; exact hm
  obtain ⟨c2, h2, hp2⟩ := s2.pool
  refine ⟨a, p, m2.set q (.lst ((rows.take a ++ (nm, p) :: rows.drop a).map rowT)), p0, by omega, ⟨by simp [s2.ml], c2, by rw [List.getElem?_set_ne hq]; exact h2, hp2⟩, by rw [List.getElem?_set_self (at_lt hm2)], ?_⟩
  unfold body17
  refine x_expr (t := .non) ?_
  have ok : mtOk m .insert (.obj q) = true := by
    show (vwL m (.obj q)).isSome = true
    rw [vw hm]; rfl
  have ea : evals (Cn (k + 1)) (.cons (.callF 14 (.cons (.var 0) (.cons (.bin .add (.callB .len (.cons (.var 2) .nil)) (.cst (.int 1))) .nil)) []) (.cons (.tup (.cons (.var 4) (.cons (.callF 14 (.cons (.var 0) (.cons (.bin .add (.callB .len (.cons (.var 3) .nil)) (.cst (.int 2))) .nil)) []) .nil))) .nil)) [some (.obj 0), some (.int 6), some (.obj q), some (LS tl), some (.str nm)] m = .ok [.int a, rowT (nm, p)] m2 :=
    ds_cons e1 (ds_cons (d_tup2 (d_var rfl) e2) ds_nil)
  show (Res.ok (T.obj q) m).bind (fun x m => if mtOk m .insert x then (evals (Cn (k + 1)) _ _ m).bind fun xs m => mutR m .insert x xs else .stuck) = _
  rw [Res.bind_ok, if_pos ok, ea, Res.bind_ok]
  show (match m2[q]? with
    | some c => (match mutT m2 .insert c [.int a, rowT (nm, p)] with
      | some (y, c) => Res.ok y (m2.set q c)
      | none => .stuck)
    | none => .stuck) = _
  rw [hm2]
  show (match (if (rows.map rowT).length < LINE ∧ (0 : Int) ≤ a ∧ (a : Int) < 4611686018427387904 then some (T.non, Cell.lst ((rows.map rowT).take (a : Int).toNat ++ rowT (nm, p) :: (rows.map rowT).drop (a : Int).toNat)) else none) with
      | some (y, c) => Res.ok y (m2.set q c)
      | none => .stuck) = _
  rw [if_pos ⟨by rw [List.length_map]; exact Nat.lt_of_lt_of_le hl (by decide), by omega, by omega⟩, Int.toNat_natCast]
  show Res.ok T.non (m2.set q _) = _
  rw [List.map_append, List.map_cons, List.map_take, List.map_drop]
theorem loop17 {w : Walk} (hw : w.at? = none) (hw1 : tl.length ≤ 6) (hq : q ≠ 0) : ∀ (todo : List Nm) (rows : List Row) (m : Store) (x4 : Option T), SP ns n m → m[q]? = some (.lst (rows.map rowT)) → rows.length + todo.length < 100 → (∀ r ∈ rows, 0 ≤ r.2 ∧ r.2 < 8) →
    ∃ (rows' : List Row) (m' : Store) (y4 : Option T), SP ns n m' ∧ m'[q]? = some (.lst (rows'.map rowT)) ∧ (rows'.map (·.1)).Perm (rows.map (·.1) ++ todo) ∧ (∀ r ∈ rows', 0 ≤ r.2 ∧ r.2 < 8) ∧
      forLoop w (fun t env m => (Res.ofO ((Tgt.one 4).set m t env) m).out env fun env m => exec (Cn (k + 1)) body17 env m) (todo.map T.str) [some (.obj 0), some (.int 6), some (.obj q), some (LS tl), x4] m = .nxt [some (.obj 0), some (.int 6), some (.obj q), some (LS tl), y4] m'
  | [], rows, m, x4, h, hm, _, hr => by
    refine ⟨rows, m, x4, h, hm, by rw [List.append_nil], hr, ?_⟩
    rw [List.map_nil]
    unfold forLoop
    rw [if_pos (wok_none hw)]
  | nm :: todo, rows, m, x4, h, hm, hl, hr => by
    obtain ⟨a, p, m1, p0, p1, s1, g1, q1⟩ := turn17 (k := k) (nm := nm) hw1 h hq hm (by simp at hl; omega)
    have pm := ins_perm rows a (nm, p)
    obtain ⟨rows', m2, y4, s2, g2, pp, hr2, q2⟩ := loop17 hw hw1 hq todo (rows.take a ++ (nm, p) :: rows.drop a) m1 (some (.str nm)) s1 g1 (by rw [pm.length_eq]; simp at hl ⊢; omega) (fun r hx => by
      rcases List.mem_cons.mp (pm.mem_iff.mp hx) with rfl | hx
      · exact ⟨p0, p1⟩
      · exact hr r hx)
    refine ⟨rows', m2, y4, s2, g2, pp.trans ?_, hr2, ?_⟩
    · have p3 : ((rows.take a ++ (nm, p) :: rows.drop a).map (·.1) ++ todo).Perm ((nm :: rows.map (·.1)) ++ todo) := (pm.map (·.1)).append_right todo
      refine p3.trans ?_
      rw [List.cons_append]
      exact (List.perm_middle (a := nm) (l₁ := rows.map fun x => x.1) (l₂ := todo)).symm
    · rw [List.map_cons, forL_nxt hw q1]; exact q2
end
theorem pledgesD_ok {ns : List Int} {n : Nat} (k : Nat) {m : Store} (h : SP ns n m) : ∃ (rows : List Row) (n' : Nat) (m' : Store) (b : Bool), RowsOk rows ∧ SP ns n' m' ∧ callN P (k + 3) 17 [.obj 0, .int 6] m = .ok (.lst (rows.map rowT), b) m' := by
  have q0 : m.length ≠ 0 := by
    obtain ⟨_, e, _⟩ := h.pool
    have := at_lt e
    omega
  have s2 := sp_app h (.lst [])
  obtain ⟨names, n3, m3, b, hN, s3, g3, e3⟩ := names_ok k s2
  have gq : (m ++ [Cell.lst []])[m.length]? = some (.lst []) := by rw [List.getElem?_append_right (Nat.le_refl _), Nat.sub_self]; rfl
  have gq3 := g3 _ _ q0 gq
  obtain ⟨v', m4, v0, v1, s4, g4, e4⟩ := sp_draw (k := k + 1) (s := 0) (env := [some (.obj 0), some (.int 6), some (.obj m.length), none, none]) rfl s3 (a := .bin .add (.var 1) (.cst (.int 1))) (many := 6 + 1) (d_add (d_var (t := .int 6) rfl) ev_cst) (by decide) (by decide)
  obtain ⟨v, rfl⟩ := Int.eq_ofNat_of_zero_le v0
  have hv : v ≤ names.length := by rw [hN.len]; omega
  have ei : eval (Cn (k + 2)) iter17 [some (.obj 0), some (.int 6), some (.obj m.length), none, none] (m ++ [.lst []]) = .ok (LS (names.take v)) m4 := by
    unfold iter17
    refine d_slice (c_call0 (r := (.lst (names.map T.str), b)) (ds_cons (d_var rfl) (ds_cons (d_var rfl) ds_nil)) e3) ev_cst rfl e4 rfl ?_
    show some (T.lst (cutT (names.map T.str) none (some (v : Int)))) = some (T.lst ((names.take v).map T.str))
    rw [cut_lo _ v (by rw [List.length_map]; exact hv), List.map_take]
  have hl6 : (names.take v).length ≤ 6 := by rw [List.length_take, hN.len]; omega
  obtain ⟨rows, m5, y4, s5, g5, pp, hr, q5⟩ := loop17 (k := k + 1) (w := ⟨(names.take v).map T.str, none, false⟩) (ns := ns) (n := n3) (tl := names.take v) (q := m.length) rfl hl6 q0 (names.take v) [] m4 none s4 (by rw [g4 _ q0]; exact gq3) (by simp [hN.len]; omega) (fun r hr => absurd hr (by simp))
  have tk : ∀ x ∈ names.take v, x ∈ names := fun x hx => List.mem_of_mem_take hx
  refine ⟨rows, n3, m5.set m.length .dead, true, ⟨fun r hr' => ?_, fun r hr' => (hr r hr').1, fun r hr' => (hr r hr').2, ?_, fun hn => ?_, ?_⟩, ?_, ?_⟩
  · exact hN.good _ (tk _ (by simpa using pp.mem_iff.mp (List.mem_map.mpr ⟨r, hr', rfl⟩)))
  · have : (rows.map (·.1)).Nodup ↔ (([] : List Row).map (·.1) ++ names.take v).Nodup := pp.nodup_iff
    rw [this]
    exact (List.take_sublist v names).nodup hN.nd
  · exact hN.no (tk _ (by simpa using pp.mem_iff.mp hn))
  · have := pp.length_eq
    rw [List.length_map, List.length_append, List.length_map] at this
    simp only [List.length_nil] at this
    omega
  · obtain ⟨c5, h5, hp5⟩ := s5.pool
    exact ⟨by simp [s5.ml], c5, by rw [List.getElem?_set_ne q0]; exact h5, hp5⟩
  · rw [callN_f (P := P) (i := 17) rfl rfl rfl]
    show finish (exec (Cn (k + 2)) b17 [some (.obj 0), some (.int 6), none, none, none] m) = _
    have q7 : exec (Cn (k + 2)) b17 [some (.obj 0), some (.int 6), none, none, none] m = .ret (.lst (rows.map rowT)) true (m5.set m.length .dead) := by
      rw [b17_eq, x_seq (show exec (Cn (k + 2)) (.setBox 2 (.list .nil)) [some (.obj 0), some (.int 6), none, none, none] m = .nxt [some (.obj 0), some (.int 6), some (.obj m.length), none, none] (m ++ [.lst []]) from rfl)]
      rw [x_seq (x_set ei)]
      show exec (Cn (k + 2)) _ [some (.obj 0), some (.int 6), some (.obj m.length), some (LS (names.take v)), none] m4 = _
      have fo : exec (Cn (k + 2)) (.for (.one 4) (.of (.var 3)) body17) [some (.obj 0), some (.int 6), some (.obj m.length), some (LS (names.take v)), none] m4 = .nxt [some (.obj 0), some (.int 6), some (.obj m.length), some (LS (names.take v)), y4] m5 := by
        rw [ex_for, d_of (d_var rfl), Res.out_ok]
        exact q5
      rw [x_seq fo]
      show (match (m5[m.length]?).bind Cell.tree with | some t => Out.ret t true (m5.set m.length .dead) | none => .stuck) = _
      rw [g5]; rfl
    rw [q7, fin_ret]
end K69
end

section
set_option Elab.async false
set_option linter.all false
set_option maxRecDepth 100000
set_option maxHeartbeats 0
namespace K69
open MP
open MP (S E T EL It)
/-! ### what is refused -/
def ref22 : S := .ite (.cmp .eq (.var 0) (.cst (.int 0))) (.expr (.callF 7 (.cons (.var 1) (.cons (.var 2) .nil)) [])) (.ite (.cmp .eq (.var 0) (.cst (.int 1))) (.expr (.callF 10 (.cons (.var 1) (.cons (.var 2) .nil)) [])) (.expr (.callF 11 (.cons (.var 1) (.cons (.var 2) (.cons (.var 3) .nil))) [])))
theorem b22_eq : b22 = .seq (.tryRef ref22 0) (.ret (.cst (.str ['n', 'o', 'n', 'e']))) := rfl
theorem rf_2 : P.rf 2 = some ['n', 'u', 'm', 'b', 'e', 'r'] := by decide +kernel
theorem rf_3 : P.rf 3 = some ['t', 'w', 'i', 'c', 'e'] := by decide +kernel
theorem rf_4 : P.rf 4 = some ['u', 'n', 'k', 'n', 'o', 'w', 'n'] := by decide +kernel
theorem rf_6 : P.rf 6 = some ['p', 'a', 'p', 'e', 'r'] := by decide +kernel
theorem sub_2 : P.sub 2 0 = some true := by decide +kernel
theorem sub_3 : P.sub 3 0 = some true := by decide +kernel
theorem sub_4 : P.sub 4 0 = some true := by decide +kernel
theorem sub_6 : P.sub 6 0 = some true := by decide +kernel
theorem eq_lit {C : Ctx} {env : Env} {m : Store} {i : Nat} {x y : Int} {b : Bool} (h : env.get i = some (.int x)) (e : decide (x = y) = b) : test C (.cmp .eq (.var i) (.cst (.int y))) env m = .ok b m := by
  rw [← e]
  exact d_test (i_eq (d_var h) ev_cst) rfl
theorem ref_of {k : Nat} {m : Store} {a b c d : T} {x : Nat} {s : Nm} (hu : T.upTos 0 [a, b, c, d] = true) (h : exec (Cn k) ref22 [some a, some b, some c, some d, none] [] = .exc x [] [some a, some b, some c, some d, none] []) (hs : P.sub x 0 = some true) (hr : P.rf x = some s) : callN P (k + 1) 22 [a, b, c, d] m = .ok (.str s, false) m := by
  refine call_g (i := 22) rfl rfl rfl hu (m1 := []) ?_ rfl
  show exec (Cn k) b22 [some a, some b, some c, some d, none] [] = _
  rw [b22_eq]
  exact x_seqR (c_tryRef h hs hr)
theorem ref_0 {k : Nat} {m : Store} {b c d : T} {x : Nat} {s : Nm} (hu : T.upTos 0 [b, c, d] = true) (h : callN P k 7 [b, c] [] = .exc x [] []) (hs : P.sub x 0 = some true) (hr : P.rf x = some s) : callN P (k + 1) 22 [.int 0, b, c, d] m = .ok (.str s, false) m := by
  refine ref_of (by show (true && T.upTos 0 [b, c, d]) = true; rw [hu]; rfl) ?_ hs hr
  unfold ref22
  rw [x_iteT (eq_lit (x := 0) rfl rfl)]
  exact x_exprX (c_callX (ts := [b, c]) (ds_cons (d_var rfl) (ds_cons (d_var rfl) ds_nil)) h)
theorem ref_1 {k : Nat} {m : Store} {b c d : T} {x : Nat} {s : Nm} (hu : T.upTos 0 [b, c, d] = true) (h : callN P k 10 [b, c] [] = .exc x [] []) (hs : P.sub x 0 = some true) (hr : P.rf x = some s) : callN P (k + 1) 22 [.int 1, b, c, d] m = .ok (.str s, false) m := by
  refine ref_of (by show (true && T.upTos 0 [b, c, d]) = true; rw [hu]; rfl) ?_ hs hr
  unfold ref22
  rw [x_iteF (eq_lit (x := 1) rfl rfl), x_iteT (eq_lit (x := 1) rfl rfl)]
  exact x_exprX (c_callX (ts := [b, c]) (ds_cons (d_var rfl) (ds_cons (d_var rfl) ds_nil)) h)
theorem ref_2 {k : Nat} {m : Store} {b c d : T} {x : Nat} {s : Nm} (hu : T.upTos 0 [b, c, d] = true) (h : callN P k 11 [b, c, d] [] = .exc x [] []) (hs : P.sub x 0 = some true) (hr : P.rf x = some s) : callN P (k + 1) 22 [.int 2, b, c, d] m = .ok (.str s, false) m := by
  refine ref_of (by show (true && T.upTos 0 [b, c, d]) = true; rw [hu]; rfl) ?_ hs hr
  unfold ref22
  rw [x_iteF (eq_lit (x := 2) rfl rfl), x_iteF (eq_lit (x := 2) rfl rfl)]
  exact x_exprX (c_callX (ts := [b, c, d]) (ds_cons (d_var rfl) (ds_cons (d_var rfl) (ds_cons (d_var rfl) ds_nil))) h)
variable {rows : List Row} {n : Nm} {l : List Nm} {t : T}
theorem up_three (h : T.upTo 0 t = true) : T.upTos 0 [.lst (rows.map rowT), LS l, t] = true := up_args2 (by show (T.upTo 0 t && true) = true; rw [h]; rfl)
theorem e_turns (k : Nat) (m : Store) (h : Farms rows) (h6 : rows.length ≤ 6) (hs : l.Sublist (nms rows)) (hr : rnd rows l = none) : callN P (k + 7) 22 [.int 0, .lst (rows.map rowT), LS l, .int 0] m = .ok (.str ['p', 'a', 'p', 'e', 'r'], false) m :=
  ref_0 (up_three rfl) (steps_none k [] h h6 (Joined.sub h hs) (by rw [sub_sorted hs]; exact hs) (by rw [sub_sorted hs]; exact hr)) sub_6 rf_6
theorem e_steps (k : Nat) (m : Store) (h : Farms rows) (hn : n ∉ nms rows) : callN P (k + 6) 22 [.int 0, .lst (rows.map rowT), LS [n], .int 0] m = .ok (.str ['u', 'n', 'k', 'n', 'o', 'w', 'n'], false) m :=
  ref_0 (up_three rfl) (steps_bad k [] fun m => joined_unknown k m h hn) sub_4 rf_4
theorem e_judge (k : Nat) (m : Store) (h : Farms rows) (hn : n ∉ nms rows) : callN P (k + 6) 22 [.int 1, .lst (rows.map rowT), LS [n], .int 0] m = .ok (.str ['u', 'n', 'k', 'n', 'o', 'w', 'n'], false) m :=
  ref_1 (up_three rfl) (judge_bad k [] h fun m => joined_unknown k m (farms_srt h) (by rw [nms_srt]; exact hn)) sub_4 rf_4
theorem e_twice (k : Nat) (m : Store) (h : Farms rows) (hn : n ∈ nms rows) : callN P (k + 6) 22 [.int 1, .lst (rows.map rowT), LS [n, n], .int 0] m = .ok (.str ['t', 'w', 'i', 'c', 'e'], false) m :=
  ref_1 (up_three rfl) (judge_bad k [] h fun m => joined_twice k m (farms_srt h) (by rw [nms_srt]; exact hn)) sub_3 rf_3
theorem e_unknown (k : Nat) (m : Store) (h : Farms rows) (hn : n ∉ nms rows) : callN P (k + 5) 22 [.int 2, .lst (rows.map rowT), .str n, .int 0] m = .ok (.str ['u', 'n', 'k', 'n', 'o', 'w', 'n'], false) m :=
  ref_2 (up_args rfl) (changed_unknown k [] h hn rfl) sub_4 rf_4
theorem e_number (k : Nat) (m : Store) (h : Farms rows) (hn : n ∈ nms rows) (hb : Bad t) : callN P (k + 5) 22 [.int 2, .lst (rows.map rowT), .str n, t] m = .ok (.str ['n', 'u', 'm', 'b', 'e', 'r'], false) m :=
  ref_2 (up_args (by show (true && (T.upTo 0 t && true)) = true; rw [up_bad hb]; rfl)) (changed_bad k [] h hn hb) sub_2 rf_2
end K69
end

section
set_option Elab.async false
set_option linter.all false
set_option maxRecDepth 100000
set_option maxHeartbeats 0
namespace K69
open MP
/-! ### all join: by rounds, and by numbers -/
section
variable {rows : List Row} {won : List Nm}
abbrev rest (rs : List Row) (won : List Nm) : List Row := rs.filter fun r => !won.contains r.1
abbrev rnum (rs : List Row) (won : List Nm) : List Int := (rest rs won).map (·.2)
theorem nums_perm (rs : List Row) (won : List Nm) : (nums rs won).Perm (rnum rs won) := sortBy_perm T.int _
theorem pj_iff {rs : List Row} {won : List Nm} : pj rs won = true ↔ ∀ (i : Nat) (y : Int), (nums rs won)[i]? = some y → y ≤ (won.length : Int) + i := by
  unfold pj pjL
  rw [List.isEmpty_iff, List.filter_eq_nil_iff]
  constructor
  · intro h i y hy
    obtain ⟨h1, h2⟩ := List.getElem?_eq_some_iff.mp hy
    have := h i (List.mem_range.mpr h1)
    simp only [hy, Option.getD_some, decide_eq_true_eq] at this
    omega
  · intro h i hi hd
    have hi := List.mem_range.mp hi
    have := h i _ (List.getElem?_eq_getElem hi)
    rw [List.getElem?_eq_getElem hi] at hd
    simp only [Option.getD_some, decide_eq_true_eq] at hd
    omega
/-- by counts -/
theorem pj_less {rs : List Row} {won : List Nm} : pj rs won = true ↔ ∀ i, i < (rnum rs won).length → i < less ((won.length : Int) + i + 1) (rnum rs won) := by
  have so := sortI_sorted (rnum rs won)
  have len : (nums rs won).length = (rnum rs won).length := (nums_perm rs won).length_eq
  rw [pj_iff]
  constructor
  · intro h i hi
    rw [← len] at hi
    have y := List.getElem?_eq_getElem hi
    have h1 := h i _ y
    have h2 := less_at (p := (won.length : Int) + i + 1) so y
    have h3 : less ((won.length : Int) + i + 1) (nums rs won) = less ((won.length : Int) + i + 1) (rnum rs won) := less_perm (nums_perm rs won)
    have h2' : less ((won.length : Int) + i + 1) (nums rs won) ≤ i ↔ (won.length : Int) + i + 1 ≤ (nums rs won)[i] := h2
    rw [h3] at h2'
    omega
  · intro h i y hy
    obtain ⟨hi, _⟩ := List.getElem?_eq_some_iff.mp hy
    have h1 := h i (by rw [← len]; exact hi)
    have h2 : less ((won.length : Int) + i + 1) (nums rs won) ≤ i ↔ (won.length : Int) + i + 1 ≤ y := less_at so hy
    have h3 : less ((won.length : Int) + i + 1) (nums rs won) = less ((won.length : Int) + i + 1) (rnum rs won) := less_perm (nums_perm rs won)
    rw [h3] at h2
    omega
theorem contains_perm {l r : List Nm} (p : l.Perm r) (n : Nm) : l.contains n = r.contains n := by
  rw [List.contains_eq_mem, List.contains_eq_mem]
  exact decide_eq_decide.mpr p.mem_iff
theorem pj_perm {rs : List Row} {l r : List Nm} (p : l.Perm r) : pj rs l = pj rs r := by
  have e : rnum rs l = rnum rs r := by
    unfold rnum rest
    congr 2
    funext x
    rw [contains_perm p]
  have := pj_less (rs := rs) (won := l)
  have h2 := pj_less (rs := rs) (won := r)
  rw [e, p.length_eq, ← h2] at this
  exact Bool.eq_iff_iff.mpr this
theorem srt_nodup (h : Farms rows) : (srt rows).Nodup := List.Pairwise.of_map (·.1) (fun a b q e => q (by rw [e])) (nms_nodup h)
theorem in_won_len (h : Farms rows) (hj : Joined rows won) : won.length + (rest (srt rows) won).length = rows.length := by
  have p : won.Perm ((nms rows).filter fun n => won.contains n) := perm_of_mem hj.nd ((nms_nodup h).sublist List.filter_sublist) fun x => by
    rw [List.mem_filter, List.contains_iff_mem]
    exact ⟨fun hx => ⟨hj.mem x hx, hx⟩, fun hx => hx.2⟩
  have e : ((nms rows).filter fun n => won.contains n).length = ((srt rows).filter fun r => won.contains r.1).length := by
    show (((srt rows).map (·.1)).filter fun n => won.contains n).length = _
    rw [List.filter_map, List.length_map]; rfl
  have a := fl_add (l := srt rows) (f := fun r => won.contains r.1) (g := fun r => !won.contains r.1) fun _ _ => rfl
  rw [srt_len] at a
  rw [p.length_eq, e]
  exact a
/-- whoever has no more than so many before it joins -/
theorem rounds_in (h : Farms rows) (hj : Joined rows won) (hp : pj (srt rows) won = true) : ∀ (j : Nat) (r : Row), r ∈ rest (srt rows) won → less r.2 (rnum (srt rows) won) < j → r.1 ∈ jn rows won j
  | 0, _, _, hl => absurd hl (by omega)
  | j + 1, r, hr, hl => by
    obtain ⟨hr1, hr2⟩ := List.mem_filter.mp hr
    have hrw : r.1 ∉ won := fun hm => by rw [List.contains_iff_mem.mpr hm] at hr2; simp at hr2
    show r.1 ∈ won ++ adds rows won (jn rows won j)
    refine List.mem_append_right _ (List.mem_map.mpr ⟨r, List.mem_filter.mpr ⟨hr1, ?_⟩, rfl⟩)
    simp only [Bool.and_eq_true, decide_eq_true_eq]
    refine ⟨hr2, ?_⟩
    -- those with less, and the won ones
    have sub : (won ++ (((rest (srt rows) won).filter fun s => decide (s.2 < r.2)).map (·.1))).length ≤ ((jn rows won j).filter fun x => !(x == r.1)).length := by
      refine nodup_len ?_ fun x hx => ?_
      · refine List.nodup_append.mpr ⟨hj.nd, (nms_nodup h).sublist ((List.filter_sublist.trans List.filter_sublist).map _), fun a ha b hb e => ?_⟩
        subst e
        obtain ⟨s, hs, rfl⟩ := List.mem_map.mp hb
        have := (List.mem_filter.mp (List.mem_filter.mp hs).1).2
        rw [List.contains_iff_mem.mpr ha] at this
        simp at this
      · rw [List.mem_filter]
        rcases List.mem_append.mp hx with hx | hx
        · refine ⟨?_, by simp; intro e; exact hrw (e ▸ hx)⟩
          cases j with
          | zero => exact hx
          | succ j => exact List.mem_append_left _ hx
        · obtain ⟨s, hs, rfl⟩ := List.mem_map.mp hx
          obtain ⟨hs1, hs2⟩ := List.mem_filter.mp hs
          have hs2 := of_decide_eq_true hs2
          have lt : less s.2 (rnum (srt rows) won) < less r.2 (rnum (srt rows) won) := by
            unfold less rnum
            rw [List.filter_map, List.filter_map, List.length_map, List.length_map]
            have : ((rest (srt rows) won).filter ((fun x => decide (x < s.2)) ∘ fun x => x.2)).length + 1 ≤ ((rest (srt rows) won).filter ((fun x => decide (x < r.2)) ∘ fun x => x.2)).length := by
              have := nodup_le (α := Row) (l := s :: (rest (srt rows) won).filter fun q => decide (q.2 < s.2)) (r := (rest (srt rows) won).filter fun q => decide (q.2 < r.2)) (List.nodup_cons.mpr ⟨fun hm => by have := of_decide_eq_true (List.mem_filter.mp hm).2; omega, (srt_nodup h).sublist (List.filter_sublist.trans List.filter_sublist)⟩) fun x hx => by
                rcases List.mem_cons.mp hx with rfl | hx
                · exact hs
                · obtain ⟨a, b⟩ := List.mem_filter.mp hx
                  have b := of_decide_eq_true b
                  exact List.mem_filter.mpr ⟨a, decide_eq_true (by omega)⟩
              simp only [List.length_cons] at this
              exact this
            omega
          refine ⟨rounds_in h hj hp j s hs1 (by omega), ?_⟩
          simp
          intro e
          have := (List.pairwise_iff_getElem.mp (nms_nodup h))
          have inj : ∀ a ∈ srt rows, ∀ b ∈ srt rows, a.1 = b.1 → a = b := fun a ha b hb e => by
            obtain ⟨i, hi, rfl⟩ := List.getElem_of_mem ha
            obtain ⟨i', hi', rfl⟩ := List.getElem_of_mem hb
            have e2 : (nms rows)[i]'(by rw [List.length_map]; exact hi) = (nms rows)[i']'(by rw [List.length_map]; exact hi') := by rw [List.getElem_map, List.getElem_map]; exact e
            have := (List.getElem_inj (nms_nodup h)).mp e2
            subst this; rfl
          have := inj s (List.mem_filter.mp hs1).1 r hr1 e
          subst this
          omega
    have e1 := others_len (jn_joined h hj j).nd r.1
    rw [← e1]
    rw [List.length_append, List.length_map] at sub
    have e2 : less r.2 (rnum (srt rows) won) = ((rest (srt rows) won).filter fun s => decide (s.2 < r.2)).length := by
      unfold less rnum
      rw [List.filter_map, List.length_map]; rfl
    have so := sortI_sorted (rnum (srt rows) won)
    have e3 : less r.2 (nums (srt rows) won) = less r.2 (rnum (srt rows) won) := less_perm (nums_perm ..)
    have hi : less r.2 (nums (srt rows) won) < (nums (srt rows) won).length := by
      rw [e3, (nums_perm ..).length_eq]
      have : less r.2 (rnum (srt rows) won) + (((rnum (srt rows) won).filter fun x => !decide (x < r.2))).length = (rnum (srt rows) won).length := fl_add fun _ _ => rfl
      have pos : 0 < (((rnum (srt rows) won).filter fun x => !decide (x < r.2))).length := List.length_pos_of_mem (a := r.2) (List.mem_filter.mpr ⟨List.mem_map.mpr ⟨r, hr, rfl⟩, by simp⟩)
      omega
    have y := List.getElem?_eq_getElem hi
    have a := (less_at (p := r.2) so y).mp (Nat.le_refl _)
    have b := pj_iff.mp hp _ _ y
    omega
theorem jn_sub_won (j : Nat) : ∀ x ∈ won, x ∈ jn rows won j := fun x hx => by
  cases j with
  | zero => exact hx
  | succ j => exact List.mem_append_left _ hx
theorem aj_of_pj (h : Farms rows) (hj : Joined rows won) (hp : pj (srt rows) won = true) : aj rows won = true := by
  unfold aj
  refine beq_iff_eq.mpr ?_
  have l1 : (jn rows won (rows.length + 1)).length ≤ rows.length := by
    have := nodup_len (jn_joined h hj (rows.length + 1)).nd (jn_joined h hj (rows.length + 1)).mem
    rwa [nms_len] at this
  have l2 : (nms rows).length ≤ (jn rows won (rows.length + 1)).length := nodup_len (nms_nodup h) fun x hx => by
    obtain ⟨r, hr, rfl⟩ := List.mem_map.mp hx
    by_cases hw : r.1 ∈ won
    · exact jn_sub_won _ _ hw
    · refine rounds_in h hj hp _ r (List.mem_filter.mpr ⟨hr, by simp [hw]⟩) ?_
      have : less r.2 (rnum (srt rows) won) ≤ (rnum (srt rows) won).length := List.length_filter_le ..
      have e := in_won_len h hj
      have e2 : (rnum (srt rows) won).length = (rest (srt rows) won).length := List.length_map ..
      omega
  rw [nms_len] at l2
  omega
theorem pj_of_aj (h : Farms rows) (hj : Joined rows won) (ha : aj rows won = true) : pj (srt rows) won = true := by
  cases hp : pj (srt rows) won with
  | true => rfl
  | false =>
    exfalso
    have : ¬ ∀ (i : Nat) (y : Int), (nums (srt rows) won)[i]? = some y → y ≤ (won.length : Int) + i := fun q => by rw [pj_iff.mpr q] at hp; cases hp
    simp only [Classical.not_forall, Classical.not_imp] at this
    obtain ⟨i, t, hy, ht⟩ := this
    have so := sortI_sorted (rnum (srt rows) won)
    have few : less t (rnum (srt rows) won) ≤ i := by
      rw [← less_perm (nums_perm (srt rows) won)]
      exact (less_at so hy).mpr (Int.le_refl _)
    have bound : ∀ (l : List Nm), l.Nodup → (∀ x ∈ l, x ∈ won ∨ ∃ r ∈ rest (srt rows) won, r.1 = x ∧ r.2 < t) → l.length ≤ won.length + i := fun l nd hl => by
      have := nodup_len (l := l) (r := won ++ ((rest (srt rows) won).filter fun s => decide (s.2 < t)).map (·.1)) nd fun x hx => by
        rcases hl x hx with q | ⟨r, hr, rfl, lt⟩
        · exact List.mem_append_left _ q
        · exact List.mem_append_right _ (List.mem_map.mpr ⟨r, List.mem_filter.mpr ⟨hr, decide_eq_true lt⟩, rfl⟩)
      rw [List.length_append, List.length_map] at this
      have e2 : less t (rnum (srt rows) won) = ((rest (srt rows) won).filter fun s => decide (s.2 < t)).length := by
        unfold less rnum
        rw [List.filter_map, List.length_map]; rfl
      omega
    have inn : ∀ j, ∀ x ∈ jn rows won j, x ∈ won ∨ ∃ r ∈ rest (srt rows) won, r.1 = x ∧ r.2 < t := by
      intro j
      induction j with
      | zero => exact fun x hx => .inl hx
      | succ j ih =>
        intro x hx
        rcases List.mem_append.mp hx with hx | hx
        · exact .inl hx
        · obtain ⟨r, hr, rfl⟩ := List.mem_map.mp hx
          obtain ⟨hr1, hr2⟩ := List.mem_filter.mp hr
          simp only [Bool.and_eq_true, decide_eq_true_eq] at hr2
          refine .inr ⟨r, List.mem_filter.mpr ⟨hr1, hr2.1⟩, rfl, ?_⟩
          have := bound _ (jn_joined h hj j).nd ih
          have s : sees (jn rows won j) r.1 ≤ (jn rows won j).length := by unfold sees; split <;> omega
          omega
    have := bound _ (jn_joined h hj (rows.length + 1)).nd (inn _)
    have e := beq_iff_eq.mp (show ((jn rows won (rows.length + 1)).length == rows.length) = true from ha)
    have e2 := in_won_len h hj
    have hi := (List.getElem?_eq_some_iff.mp hy).1
    rw [(nums_perm ..).length_eq] at hi
    have e3 : (rnum (srt rows) won).length = (rest (srt rows) won).length := List.length_map ..
    omega
theorem aj_pj (h : Farms rows) (hj : Joined rows won) : aj rows won = pj (srt rows) won :=
  Bool.eq_iff_iff.mpr ⟨pj_of_aj h hj, aj_of_pj h hj⟩
end
end K69
end

section
set_option Elab.async false
set_option linter.all false
set_option maxRecDepth 100000
set_option maxHeartbeats 0
namespace K69
open MP
section
variable {rows : List Row} {won : List Nm}
theorem neg_up {a b : Row} (h : upBy negT a b) : b.2 ≤ a.2 := by
  have h : lexA [Sum.inl (-b.2), Sum.inr (b.1.map Char.toNat)] [Sum.inl (-a.2), Sum.inr (a.1.map Char.toNat)] = false := h
  by_cases q : b.2 ≤ a.2
  · exact q
  · have : atLt (Sum.inl (-b.2)) (Sum.inl (-a.2)) = true := decide_eq_true (by omega)
    rw [lex_cons.mpr (.inl this)] at h; cases h
theorem negs_perm (rs : List Row) : (negs rs).Perm rs := sortBy_perm negT rs
theorem ordr_perm (rs : List Row) : (ordr rs).Perm (rs.map (·.1)) := (negs_perm rs).map _
theorem ordr_nodup (h : Farms rows) : (ordr (srt rows)).Nodup := (ordr_perm _).nodup_iff.mpr (nms_nodup h)
theorem ordr_len (rs : List Row) : (ordr rs).length = rs.length := by unfold ordr; rw [List.length_map, negs_len]
theorem take_joined (h : Farms rows) (k : Nat) : Joined rows ((ordr (srt rows)).take k) :=
  ⟨fun n hn => (ordr_perm (srt rows)).mem_iff.mp (List.mem_of_mem_take hn), (List.take_sublist k _).nodup (ordr_nodup h)⟩
theorem take_len {k : Nat} (hk : k ≤ rows.length) : ((ordr (srt rows)).take k).length = k := by rw [List.length_take, ordr_len, srt_len]; omega
/-- those not among the first are those behind -/
theorem rest_drop (h : Farms rows) (k : Nat) : ((negs (srt rows)).filter fun r => !((ordr (srt rows)).take k).contains r.1) = (negs (srt rows)).drop k := by
  have e : (ordr (srt rows)).take k = ((negs (srt rows)).take k).map (·.1) := by unfold ordr; rw [List.map_take]
  rw [e]
  have nd := ordr_nodup h
  unfold ordr at nd
  generalize negs (srt rows) = L at nd ⊢
  conv => lhs; rw [← List.take_append_drop k L, List.filter_append]
  have a : ((L.take k).filter fun r => !((((L.take k ++ L.drop k).take k)).map (·.1)).contains r.1) = [] := by
    rw [List.take_append_drop]
    refine List.filter_eq_nil_iff.mpr fun r hr => ?_
    have : ((L.take k).map (·.1)).contains r.1 = true := List.contains_iff_mem.mpr (List.mem_map.mpr ⟨r, hr, rfl⟩)
    rw [this]; decide
  have b : ((L.drop k).filter fun r => !((((L.take k ++ L.drop k).take k)).map (·.1)).contains r.1) = L.drop k := by
    rw [List.take_append_drop]
    refine List.filter_eq_self.mpr fun r hr => ?_
    rw [← List.take_append_drop k L, List.map_append] at nd
    have d := (List.nodup_append.mp nd).2.2
    have : ((L.take k).map (·.1)).contains r.1 = false := notc fun hm => d _ hm _ (List.mem_map.mpr ⟨r, hr, rfl⟩) rfl
    rw [this]; rfl
  rw [a, b, List.nil_append]
theorem rnum_drop (h : Farms rows) (k : Nat) : (rnum (srt rows) ((ordr (srt rows)).take k)).Perm (((negs (srt rows)).drop k).map (·.2)) := by
  rw [← rest_drop h k]
  exact ((negs_perm (srt rows)).symm.filter _).map _
theorem less_rnum (p : Int) (rs : List Row) (won : List Nm) : less p (rnum rs won) ≤ less p (rs.map (·.2)) := by
  unfold less rnum
  rw [List.filter_map, List.length_map, List.filter_map, List.length_map]
  exact (List.filter_sublist.filter _).length_le
theorem less_greedy (h : Farms rows) (hj : Joined rows won) (p : Int) : less p (rnum (srt rows) won) ≤ less p (rnum (srt rows) ((ordr (srt rows)).take won.length)) := by
  have e1 := in_won_len h hj
  have hk : won.length ≤ rows.length := by omega
  have e2 := in_won_len h (take_joined h won.length)
  rw [take_len hk] at e2
  have l1 : (rnum (srt rows) won).length = (rest (srt rows) won).length := List.length_map ..
  have l2 : (rnum (srt rows) ((ordr (srt rows)).take won.length)).length = (rest (srt rows) ((ordr (srt rows)).take won.length)).length := List.length_map ..
  have pm := rnum_drop h won.length
  rw [less_perm pm]
  have l3 := pm.length_eq
  by_cases q : ∀ x ∈ ((negs (srt rows)).drop won.length).map (·.2), x < p
  · have : less p (((negs (srt rows)).drop won.length).map (·.2)) = (((negs (srt rows)).drop won.length).map (·.2)).length := by
      unfold less
      rw [List.filter_eq_self.mpr fun x hx => decide_eq_true (q x hx)]
    have b : less p (rnum (srt rows) won) ≤ (rnum (srt rows) won).length := List.length_filter_le ..
    omega
  · simp only [Classical.not_forall, Classical.not_imp] at q
    obtain ⟨x, hx, hp⟩ := q
    obtain ⟨r, hr, rfl⟩ := List.mem_map.mp hx
    have so := sort_sorted (f := negT) (srt rows)
    have so : (negs (srt rows)).Pairwise (upBy negT) := so
    rw [← List.take_append_drop won.length (negs (srt rows))] at so
    have d := (List.pairwise_append.mp so).2.2
    have z : less p (((negs (srt rows)).take won.length).map (·.2)) = 0 := by
      unfold less
      rw [List.length_eq_zero_iff, List.filter_eq_nil_iff]
      intro y hy
      obtain ⟨s, hs, rfl⟩ := List.mem_map.mp hy
      have := neg_up (d s hs r hr)
      simp only [decide_eq_true_eq]
      omega
    have a : less p ((negs (srt rows)).map (·.2)) = less p (((negs (srt rows)).take won.length).map (·.2)) + less p (((negs (srt rows)).drop won.length).map (·.2)) := by
      conv => lhs; rw [← List.take_append_drop won.length (negs (srt rows))]
      unfold less
      rw [List.map_append, List.filter_append, List.length_append]
    have b := less_rnum p (srt rows) won
    have c : less p ((srt rows).map (·.2)) = less p ((negs (srt rows)).map (·.2)) := less_perm ((negs_perm (srt rows)).symm.map _)
    omega
theorem greedy (h : Farms rows) (hj : Joined rows won) (hp : pj (srt rows) won = true) : pj (srt rows) ((ordr (srt rows)).take won.length) = true := by
  have e1 := in_won_len h hj
  have hk : won.length ≤ rows.length := by omega
  have e2 := in_won_len h (take_joined h won.length)
  rw [take_len hk] at e2
  have l1 : (rnum (srt rows) won).length = (rest (srt rows) won).length := List.length_map ..
  have l2 : (rnum (srt rows) ((ordr (srt rows)).take won.length)).length = (rest (srt rows) ((ordr (srt rows)).take won.length)).length := List.length_map ..
  rw [pj_less] at hp ⊢
  intro i hi
  rw [take_len hk]
  have a := hp i (by omega)
  have b := less_greedy h hj ((won.length : Int) + i + 1)
  omega
theorem least_of {p : Nat → Bool} : ∀ (n : Nat), p n = true → ∃ K, K ≤ n ∧ p K = true ∧ ∀ j, j < K → p j = false
  | 0, h => ⟨0, Nat.le_refl _, h, fun _ hj => absurd hj (by omega)⟩
  | n + 1, h => by
    by_cases q : ∃ j, j ≤ n ∧ p j = true
    · obtain ⟨j, hj, hp⟩ := q
      obtain ⟨K, h1, h2, h3⟩ := least_of j hp
      exact ⟨K, by omega, h2, h3⟩
    · refine ⟨n + 1, Nat.le_refl _, h, fun j hj => ?_⟩
      cases hp : p j with
      | false => rfl
      | true => exact absurd ⟨j, by omega, hp⟩ q
theorem least_ex (h : Farms rows) : ∃ K, Least (srt rows) K := by
  have e := in_won_len h (take_joined h rows.length)
  rw [take_len (Nat.le_refl _)] at e
  obtain ⟨K, h1, h2, h3⟩ := least_of (p := fun j => pj (srt rows) ((ordr (srt rows)).take j)) rows.length (by
    show pj _ _ = true
    rw [pj_less]
    intro i hi
    have : (rnum (srt rows) ((ordr (srt rows)).take rows.length)).length = (rest (srt rows) ((ordr (srt rows)).take rows.length)).length := List.length_map ..
    omega)
  exact ⟨K, by rw [srt_len]; exact h1, h2, h3⟩
theorem Least.min {K : Nat} (hk : Least (srt rows) K) (h : Farms rows) (hj : Joined rows won) (hp : pj (srt rows) won = true) : K ≤ won.length := by
  by_cases q : won.length < K
  · have := hk.no _ q
    rw [greedy h hj hp] at this; cases this
  · omega
/-- unlike names, in order -/
theorem sort_sub (h : Farms rows) {l : List Nm} (hj : Joined rows l) : (sortBy T.str l).Sublist (nms rows) := by
  have e : sortBy T.str l = (nms rows).filter fun n => l.contains n := by
    refine sorted_uniq str_inj (sort_sorted l) ((nms_sorted rows).sublist List.filter_sublist) ((sortBy_perm T.str l).trans (perm_of_mem hj.nd ((nms_nodup h).sublist List.filter_sublist) fun x => ?_))
    rw [List.mem_filter, List.contains_iff_mem]
    exact ⟨fun hx => ⟨hj.mem x hx, hx⟩, fun hx => hx.2⟩
  rw [e]
  exact List.filter_sublist
def good (rows : List Row) : List (List Nm) := (lots (nms rows)).filter fun l => aj rows l
theorem good_mem (h : Farms rows) {l : List Nm} : l ∈ good rows ↔ l.Sublist (nms rows) ∧ pj (srt rows) l = true := by
  unfold good
  rw [List.mem_filter, mem_lots]
  constructor
  · rintro ⟨a, b⟩
    exact ⟨a, by rw [aj_pj h (Joined.sub h a)] at b; exact b⟩
  · rintro ⟨a, b⟩
    exact ⟨a, by rw [aj_pj h (Joined.sub h a)]; exact b⟩
theorem good_has (h : Farms rows) {l : List Nm} (hj : Joined rows l) : (good rows).contains (sortBy T.str l) = pj (srt rows) (sortBy T.str l) := by
  rw [List.contains_eq_mem]
  cases hp : pj (srt rows) (sortBy T.str l) with
  | true => exact decide_eq_true ((good_mem h).mpr ⟨sort_sub h hj, hp⟩)
  | false => exact decide_eq_false fun hm => by have := ((good_mem h).mp hm).2; rw [hp] at this; cases this
theorem good_least (h : Farms rows) {K : Nat} (hk : Least (srt rows) K) : (∃ l ∈ good rows, l.length = K) ∧ ∀ l ∈ good rows, K ≤ l.length := by
  refine ⟨⟨sortBy T.str ((ordr (srt rows)).take K), (good_mem h).mpr ⟨sort_sub h (take_joined h K), ?_⟩, ?_⟩, fun l hl => ?_⟩
  · rw [pj_perm (sortBy_perm T.str _)]; exact hk.yes
  · rw [(sortBy_perm T.str _).length_eq]
    exact take_len (by have := hk.le; rwa [srt_len] at this)
  · obtain ⟨a, b⟩ := (good_mem h).mp hl
    exact hk.min h (Joined.sub h a) b
end
end K69
end

section
set_option Elab.async false
set_option linter.all false
set_option maxRecDepth 100000
set_option maxHeartbeats 0
namespace K69
open MP
open MP (S E T EL It)
/-! ### the law -/
def s0 : S := .setBox 1 (.callF 13 (.cons (.var 0) .nil) [])
def s1 : S := .set 2 (.callF 17 (.cons (.var 1) (.cons (.cst (.int 6)) .nil)) [])
def s2 : S := .set 3 (.callB .sorted (.cons (.var 2) .nil))
def s3 : S := .set 4 (.comp [5] (.one 5) (.of (.var 3)) (.cst (.bl true)) (.idx (.var 5) (.cst (.int 0))))
def s4_0 : S := .set 7 (.comp [8] (.one 8) (.of (.var 4)) (.cmp .eq (.callF 14 (.cons (.var 1) (.cons (.cst (.int 2)) .nil)) []) (.cst (.int 0))) (.var 8))
def s4_1 : S := .set 9 (.callF 21 (.cons (.var 3) (.cons (.var 7) .nil)) [])
def s4_2 : S := .ite (.cmp .is (.var 9) (.cst (.non))) (.ite (.cmp .ne (.callF 22 (.cons (.cst (.int 0)) (.cons (.var 2) (.cons (.var 7) (.cons (.cst (.int 0)) .nil)))) []) (.cst (.str ['p', 'a', 'p', 'e', 'r']))) (.ret (.cst (.bl false))) (.skip)) (.ite (.not (.callF 12 (.cons (.callF 7 (.cons (.callB .list (.cons (.var 2) .nil)) (.cons (.listI (.rev (.var 7))) .nil)) []) (.cons (.var 9) .nil)) [])) (.ret (.cst (.bl false))) (.skip))
def bod4 : S := .seq s4_0 (.seq s4_1 (s4_2))
def s4 : S := .for (.one 6) (.rng (.cst (.int 5))) bod4
def s5 : S := .set 10 (.comp [11] (.one 11) (.of (.callF 19 (.cons (.var 4) .nil) [])) (.callF 20 (.cons (.var 3) (.cons (.var 11) .nil)) []) (.var 11))
def s6 : S := .set 12 (.callB .min (.cons (.comp [11] (.one 11) (.of (.var 10)) (.cst (.bl true)) (.callB .len (.cons (.var 11) .nil))) .nil))
def s7 : S := .set 13 (.comp [5] (.one 5) (.of (.callB .sorted (.cons (.comp [8, 14] (.many [8, 14]) (.of (.var 3)) (.cst (.bl true)) (.tup (.cons (.bin .sub (.cst (.int 0)) (.var 14)) (.cons (.var 8) .nil)))) .nil))) (.cst (.bl true)) (.idx (.var 5) (.cst (.int 1))))
def s8 : S := .ite (.not (.callF 12 (.cons (.callF 8 (.cons (.callB .list (.cons (.var 2) .nil)) .nil) []) (.cons (.callB .sorted (.cons (.slice (.var 13) (.cst .non) (.var 12)) .nil)) .nil)) [])) (.ret (.cst (.bl false))) (.skip)
def s9_0 : S := .set 11 (.callF 15 (.cons (.var 1) (.cons (.list (.cons (.slice (.var 13) (.cst .non) (.var 12)) (.cons (.callF 15 (.cons (.var 1) (.cons (.var 10) .nil)) []) (.cons (.callF 15 (.cons (.var 1) (.cons (.callF 19 (.cons (.var 4) .nil) []) .nil)) []) .nil)))) .nil)) [])
def s9_1 : S := .ite (.not (.callF 12 (.cons (.callF 10 (.cons (.callB .list (.cons (.var 2) .nil)) (.cons (.callB .list (.cons (.var 11) .nil)) .nil)) []) (.cons (.and (.cmp .isin (.callB .sorted (.cons (.var 11) .nil)) (.var 10)) (.cmp .eq (.callB .len (.cons (.var 11) .nil)) (.var 12))) .nil)) [])) (.ret (.cst (.bl false))) (.skip)
def bod9 : S := .seq s9_0 (s9_1)
def s9 : S := .for (.one 6) (.rng (.cst (.int 6))) bod9
def s10_0 : S := .set 14 (.callF 14 (.cons (.var 1) (.cons (.cst (.int 8)) .nil)) [])
def s10_1 : S := .ite (.not (.callF 12 (.cons (.callF 11 (.cons (.callB .list (.cons (.var 2) .nil)) (.cons (.var 8) (.cons (.var 14) .nil))) []) (.cons (.comp [15, 16] (.many [15, 16]) (.of (.var 3)) (.cst (.bl true)) (.tup (.cons (.var 15) (.cons (.ite (.cmp .eq (.var 15) (.var 8)) (.var 14) (.var 16)) .nil)))) .nil)) [])) (.ret (.cst (.bl false))) (.skip)
def s10_2 : S := .ite (.or (.cmp .ne (.callF 22 (.cons (.cst (.int 2)) (.cons (.var 2) (.cons (.var 8) (.cons (.callF 15 (.cons (.var 1) (.cons (.list (.cons (.neg (.cst (.int 1))) (.cons (.cst (.int 41)) (.cons (.cst (.bl true)) .nil)))) .nil)) []) .nil)))) []) (.cst (.str ['n', 'u', 'm', 'b', 'e', 'r']))) (.cmp .ne (.callF 22 (.cons (.cst (.int 1)) (.cons (.var 2) (.cons (.list (.cons (.var 8) (.cons (.var 8) .nil))) (.cons (.cst (.int 0)) .nil)))) []) (.cst (.str ['t', 'w', 'i', 'c', 'e'])))) (.ret (.cst (.bl false))) (.skip)
def bod10 : S := .seq s10_0 (.seq s10_1 (s10_2))
def s10 : S := .for (.one 8) (.of (.var 4)) bod10
def s11 : S := .ret (.and (.cmp .eq (.callF 22 (.cons (.cst (.int 0)) (.cons (.var 2) (.cons (.list (.cons (.cst (.str ['n', 'o', 'b', 'o', 'd', 'y', 'h', 'e', 'r', 'e'])) .nil)) (.cons (.cst (.int 0)) .nil)))) []) (.cst (.str ['u', 'n', 'k', 'n', 'o', 'w', 'n']))) (.and (.cmp .eq (.callF 22 (.cons (.cst (.int 1)) (.cons (.var 2) (.cons (.list (.cons (.cst (.str ['n', 'o', 'b', 'o', 'd', 'y', 'h', 'e', 'r', 'e'])) .nil)) (.cons (.cst (.int 0)) .nil)))) []) (.cst (.str ['u', 'n', 'k', 'n', 'o', 'w', 'n']))) (.cmp .eq (.callF 22 (.cons (.cst (.int 2)) (.cons (.var 2) (.cons (.cst (.str ['n', 'o', 'b', 'o', 'd', 'y', 'h', 'e', 'r', 'e'])) (.cons (.cst (.int 0)) .nil)))) []) (.cst (.str ['u', 'n', 'k', 'n', 'o', 'w', 'n'])))))
theorem b23_eq : b23 = .seq s0 (.seq s1 (.seq s2 (.seq s3 (.seq s4 (.seq s5 (.seq s6 (.seq s7 (.seq s8 (.seq s9 (.seq s10 (s11))))))))))) := rfl
section
variable {ns : List Int} {n : Nat} {rows : List Row} {m : Store} {x5 x6 x7 x8 x9 x10 x11 x12 x13 x14 x15 x16 : Option T}
abbrev ev (ns : List Int) (rows : List Row) (x5 x6 x7 x8 x9 x10 x11 x12 x13 x14 x15 x16 : Option T) : Env := [some (.scr ns), some (.obj 0), some (.lst (rows.map rowT)), some (.lst ((srt rows).map rowT)), some (LS (nms rows)), x5, x6, x7, x8, x9, x10, x11, x12, x13, x14, x15, x16]
theorem smi (i : Int) : Sm 2 (.int i) := sm_up (sm_int i) (by decide)
theorem smb (b : Bool) : Sm 2 (.bl b) := sm_up (sm_bl b) (by decide)
theorem sm_ls {l : List Nm} (h : l.length ≤ 100) : Sm 1 (LS l) := sm_lst (fun x hx => by obtain ⟨r, _, rfl⟩ := List.mem_map.mp hx; exact sm_str r) (by rw [List.length_map]; exact Nat.le_trans h (by decide))
theorem sm_lots {f : List (List Nm)} (h : f.length ≤ 100) (hl : ∀ l ∈ f, l.length ≤ 100) : Sm 2 (.lst (f.map LS)) := sm_lst (fun x hx => by obtain ⟨r, hr, rfl⟩ := List.mem_map.mp hx; exact sm_ls (hl r hr)) (by rw [List.length_map]; exact Nat.le_trans h (by decide))
theorem RowsOk.six (h : RowsOk rows) : rows.length ≤ 6 := h.len
/-- what the rounds are -/
theorem walk_small (h6 : rows.length ≤ 6) : ∀ (n : Nat) (done : List (List Nm)) (cur : List Nm) (f : List (List Nm)), Way rows done cur → walk rows n done cur = some f → f.length ≤ 64 ∧ ∀ l ∈ f, l.Sublist (nms rows)
  | 0, _, _, _, _, h => by cases h
  | n + 1, done, cur, f, hw, h => by
    unfold walk at h
    split at h
    · cases h
      refine ⟨?_, hw.sub⟩
      have := hw.len h6
      rw [List.length_append, List.length_singleton]; omega
    · split at h
      · cases h
      · rename_i q
        exact walk_small h6 n _ _ f (hw.next (by simpa using q)) h
theorem rnd_sm (h : RowsOk rows) {s : List Nm} (hs : s.Sublist (nms rows)) {f : List (List Nm)} (hf : rnd rows s = some f) : Sm 2 (.lst (f.map LS)) := by
  obtain ⟨a, b⟩ := walk_small h.six 65 [] s f (Way.start hs) hf
  refine sm_lots (by omega) fun l hl => ?_
  have := (b l hl).length_le
  rw [nms_len] at this
  have := h.six
  omega
/-! who begins -/
theorem t4_0 (h : RowsOk rows) (hs : SP ns n m) : ∃ (start : List Nm) (m' : Store), start.Sublist (nms rows) ∧ SP ns n m' ∧ exec (Cn 13) s4_0 (ev ns rows x5 x6 x7 x8 x9 x10 x11 x12 x13 x14 x15 x16) m = .nxt (ev ns rows x5 x6 (some (LS start)) x8 x9 x10 x11 x12 x13 x14 x15 x16) m' := by
  obtain ⟨l', m', s, h', q⟩ := d_compI (C := Cn 13) (env := ev ns rows x5 x6 x7 x8 x9 x10 x11 x12 x13 x14 x15 x16) (m := m) (m1 := m) (own := [8]) (tg := .one 8) (it := .of (.var 4)) (c := .cmp .eq (.callF 14 (.cons (.var 1) (.cons (.cst (.int 2)) .nil)) []) (.cst (.int 0))) (e := .var 8) (l := nms rows) (f := T.str) (v := T.str) (I := SP ns n) (E := fun x => ev ns rows x5 x6 x7 (some (.str x)) x9 x10 x11 x12 x13 x14 x15 x16)
    (d_of (d_var rfl)) hs (fun _ _ _ => rfl) (fun a _ m hm => by
      obtain ⟨v, m', _, _, s', e⟩ := draw_to (k := 12) (s := 1) (env := ev ns rows x5 x6 x7 (some (.str a)) x9 x10 x11 x12 x13 x14 x15 x16) f14 rfl (ev_cst (t := .int 2)) hm (by decide) (by decide)
      exact ⟨_, m', s', i_eq e ev_cst⟩) (fun _ _ _ _ => d_var rfl) (by rw [nms_len]; exact Nat.le_trans h.six (by decide))
  exact ⟨l', m', s, h', by unfold s4_0; exact x_set q⟩
theorem t4_1 (h : RowsOk rows) {start : List Nm} (hs : start.Sublist (nms rows)) : exec (Cn 13) s4_1 (ev ns rows x5 x6 (some (LS start)) x8 x9 x10 x11 x12 x13 x14 x15 x16) m = .nxt (ev ns rows x5 x6 (some (LS start)) x8 (some (rT (rnd rows start))) x10 x11 x12 x13 x14 x15 x16) m := by
  unfold s4_1
  exact x_set (c_call0 (r := (rT (rnd rows start), (rnd rows start).isSome)) (ds_cons (d_var rfl) (ds_cons (d_var rfl) ds_nil)) (rounds_ok 11 m h.farms h.six hs))
theorem rev_ok {C : Ctx} {env : Env} {i : Nat} {l : List Nm} (he : env.get i = some (LS l)) (hl : l.length ≤ 100) : eval C (.listI (.rev (.var i))) env m = .ok (LS l.reverse) m := by
  have e : evalI C (.rev (.var i)) env m = .ok ⟨(l.map T.str).reverse, none, false⟩ m := by
    show (eval C (.var i) env m).bind _ = _
    rw [d_var he]; rfl
  show (evalI C (.rev (.var i)) env m).bind (fun w m => shortL w.xs m) = _
  rw [e, Res.bind_ok]
  unfold shortL
  rw [if_pos (by rw [List.length_reverse, List.length_map]; exact Nat.le_trans hl (by decide))]
  show Res.ok (T.lst ((l.map T.str).reverse)) m = Res.ok (T.lst (l.reverse.map T.str)) m
  rw [List.map_reverse]
theorem t4_2 (h : RowsOk rows) {start : List Nm} (hs : start.Sublist (nms rows)) : exec (Cn 13) s4_2 (ev ns rows x5 x6 (some (LS start)) x8 (some (rT (rnd rows start))) x10 x11 x12 x13 x14 x15 x16) m = .nxt (ev ns rows x5 x6 (some (LS start)) x8 (some (rT (rnd rows start))) x10 x11 x12 x13 x14 x15 x16) m := by
  have hl : start.length ≤ 6 := by have := hs.length_le; rw [nms_len] at this; exact Nat.le_trans this h.six
  have pm : start.Perm start.reverse := (List.reverse_perm start).symm
  have so : sortBy T.str start.reverse = start := by rw [← sort_perm_eq str_inj pm]; exact sub_sorted hs
  unfold s4_2
  cases hr : rnd rows start with
  | none =>
    rw [x_iteT (d_test (x := .bl true) (d_cmp (d_var rfl) ev_cst rfl) rfl)]
    have c := c_call0 (P := P) (k := 13) (f := 22) (env := ev ns rows x5 x6 (some (LS start)) x8 (some (rT none)) x10 x11 x12 x13 x14 x15 x16) (m := m) (args := .cons (.cst (.int 0)) (.cons (.var 2) (.cons (.var 7) (.cons (.cst (.int 0)) .nil)))) (r := (.str ['p', 'a', 'p', 'e', 'r'], false)) (ds_cons ev_cst (ds_cons (d_var rfl) (ds_cons (d_var rfl) (ds_cons ev_cst ds_nil)))) (e_turns 6 m h.farms h.six hs hr)
    exact x_ifF (x := .bl false) (s_ne c ev_cst) rfl
  | some f =>
    rw [x_iteF (d_test (x := .bl false) (d_cmp (d_var (t := rT (some f)) rfl) ev_cst rfl) rfl)]
    refine x_ifF (x := .bl false) (same_ev (k := 10) (rnd_sm h hs hr) (c_call0 (r := (.lst (f.map LS), true)) (ds_cons (one_of (l := rows.map rowT) rfl) (ds_cons (rev_ok (l := start) rfl (by omega)) ds_nil)) ?_) (d_var rfl)) rfl
    exact steps_some 7 m h.farms h.six ((Joined.sub h.farms hs).perm pm) (by rw [so]; exact hs) (by rw [so]; exact hr)
theorem t4 (h : RowsOk rows) (hs : SP ns n m) : ∃ y6 y7 y9 m', SP ns n m' ∧ exec (Cn 13) s4 (ev ns rows x5 x6 x7 x8 x9 x10 x11 x12 x13 x14 x15 x16) m = .nxt (ev ns rows x5 y6 y7 x8 y9 x10 x11 x12 x13 x14 x15 x16) m' := by
  unfold s4
  rw [ex_for, r_one ev_cst (by decide) (by decide), Res.out_ok]
  obtain ⟨env', m', q, y6, y7, y9, rfl, s⟩ := for_all (w := ⟨upFrom 0 5, none, false⟩) (f := fun t env m => (Res.ofO ((Tgt.one 6).set m t env) m).out env fun env m => exec (Cn 13) bod4 env m) (I := fun env m => ∃ y6 y7 y9, env = ev ns rows x5 y6 y7 x8 y9 x10 x11 x12 x13 x14 x15 x16 ∧ SP ns n m) rfl (upFrom 0 5) (fun t ht env m ⟨y6, y7, y9, he, hm⟩ => by
    subst he
    obtain ⟨start, m1, hs1, s1, q1⟩ := t4_0 (x5 := x5) (x6 := some t) (x7 := y7) (x8 := x8) (x9 := y9) (x10 := x10) (x11 := x11) (x12 := x12) (x13 := x13) (x14 := x14) (x15 := x15) (x16 := x16) h hm
    refine ⟨_, m1, ?_, some t, some (LS start), some (rT (rnd rows start)), rfl, s1⟩
    show exec (Cn 13) bod4 (ev ns rows x5 (some t) y7 x8 y9 x10 x11 x12 x13 x14 x15 x16) m = _
    unfold bod4
    rw [x_seq q1, x_seq (t4_1 h hs1)]
    exact t4_2 h hs1) (env := ev ns rows x5 x6 x7 x8 x9 x10 x11 x12 x13 x14 x15 x16) (m := m) ⟨x6, x7, x9, rfl, hs⟩
  exact ⟨y6, y7, y9, m', s, q⟩
end
end K69
end

section
set_option Elab.async false
set_option linter.all false
set_option maxRecDepth 100000
set_option maxHeartbeats 0
namespace K69
open MP
open MP (S E T EL It)
section
variable {ns : List Int} {n : Nat} {rows : List Row} {m : Store} {K : Nat} {x5 x6 x7 x8 x9 x10 x11 x12 x13 x14 x15 x16 : Option T}
theorem names_six (h : RowsOk rows) : (nms rows).length ≤ 6 := by rw [nms_len]; exact h.six
theorem lots_few (h : RowsOk rows) : (lots (nms rows)).length ≤ 64 := by
  rw [lots_len]
  exact Nat.pow_le_pow_right (by decide) (names_six h)
theorem good_few (h : RowsOk rows) : (good rows).length ≤ 64 := Nat.le_trans (List.length_filter_le ..) (lots_few h)
theorem lots_call {env : Env} (h : RowsOk rows) (h4 : env.get 4 = some (LS (nms rows))) : eval (Cn 13) (.callF 19 (.cons (.var 4) .nil) []) env m = .ok (.lst ((lots (nms rows)).map LS)) m :=
  c_call0 (r := (.lst ((lots (nms rows)).map LS), false)) (ds_cons (d_var h4) ds_nil) (lots_ok 12 m (names_six h))
theorem t5 (h : RowsOk rows) : exec (Cn 13) s5 (ev ns rows x5 x6 x7 x8 x9 x10 x11 x12 x13 x14 x15 x16) m = .nxt (ev ns rows x5 x6 x7 x8 x9 (some (.lst ((good rows).map LS))) x11 x12 x13 x14 x15 x16) m := by
  unfold s5
  have e := d_comp (C := Cn 13) (env := ev ns rows x5 x6 x7 x8 x9 x10 x11 x12 x13 x14 x15 x16) (m := m) (own := [11]) (tg := .one 11) (it := .of (.callF 19 (.cons (.var 4) .nil) [])) (c := .callF 20 (.cons (.var 3) (.cons (.var 11) .nil)) []) (e := .var 11) (l := lots (nms rows)) (f := LS) (v := LS) (p := fun l => aj rows l) (d := false) (E := fun l => ev ns rows x5 x6 x7 x8 x9 x10 (some (LS l)) x12 x13 x14 x15 x16)
    (d_of (lots_call h rfl)) (fun _ _ => rfl) (fun l hl => c_call0 (r := (.bl (aj rows l), false)) (ds_cons (d_var rfl) (ds_cons (d_var rfl) ds_nil)) (lawjoin_ok 12 m h.farms (Joined.sub h.farms (mem_lots.mp hl)) h.six)) (fun _ _ _ => d_var rfl) (Nat.le_trans (lots_few h) (by decide))
  exact x_set e
theorem t6 (h : RowsOk rows) (hk : Least (srt rows) K) : exec (Cn 13) s6 (ev ns rows x5 x6 x7 x8 x9 (some (.lst ((good rows).map LS))) x11 x12 x13 x14 x15 x16) m = .nxt (ev ns rows x5 x6 x7 x8 x9 (some (.lst ((good rows).map LS))) x11 (some (.int K)) x13 x14 x15 x16) m := by
  unfold s6
  have e := d_map (C := Cn 13) (env := ev ns rows x5 x6 x7 x8 x9 (some (.lst ((good rows).map LS))) x11 x12 x13 x14 x15 x16) (m := m) (own := [11]) (tg := .one 11) (it := .of (.var 10)) (e := .callB .len (.cons (.var 11) .nil)) (l := good rows) (f := LS) (v := fun l => T.int (l.length : Nat)) (E := fun l => ev ns rows x5 x6 x7 x8 x9 (some (.lst ((good rows).map LS))) (some (LS l)) x12 x13 x14 x15 x16)
    (d_of (d_var rfl)) (fun _ _ => rfl) (fun l _ => len_map (f := T.str) (d_var rfl)) (Nat.le_trans (good_few h) (by decide))
  rw [show (good rows).map (fun l => T.int (l.length : Nat)) = ((good rows).map fun l => (l.length : Int)).map T.int by rw [List.map_map]; rfl] at e
  obtain ⟨⟨l, hl, e1⟩, hm⟩ := good_least h.farms hk
  refine x_set (d_min e (z := (K : Int)) (List.mem_map.mpr ⟨l, hl, by rw [e1]⟩) fun x hx => ?_)
  obtain ⟨l, hl, rfl⟩ := List.mem_map.mp hx
  have := hm l hl
  omega
theorem t7 (h : RowsOk rows) : exec (Cn 13) s7 (ev ns rows x5 x6 x7 x8 x9 x10 x11 x12 x13 x14 x15 x16) m = .nxt (ev ns rows x5 x6 x7 x8 x9 x10 x11 x12 (some (LS (ordr (srt rows)))) x14 x15 x16) m := by
  unfold s7
  have hL : (srt rows).length ≤ LINE := srt_le h.farms
  have e1 := d_map (C := Cn 13) (env := ev ns rows none x6 x7 x8 x9 x10 x11 x12 x13 x14 x15 x16) (m := m) (own := [8, 14]) (tg := .many [8, 14]) (it := .of (.var 3)) (e := .tup (.cons (.bin .sub (.cst (.int 0)) (.var 14)) (.cons (.var 8) .nil))) (l := srt rows) (f := rowT) (v := negT) (E := fun r => ev ns rows none x6 x7 (some (.str r.1)) x9 x10 x11 x12 x13 (some (.int r.2)) x15 x16)
    (d_of (d_var rfl)) (fun _ _ => rfl) (fun r _ => by
      have := d_tup2 (C := Cn 13) (m := m) (m1 := m) (m2 := m) (env := ev ns rows none x6 x7 (some (.str r.1)) x9 x10 x11 x12 x13 (some (.int r.2)) x15 x16) (a := .bin .sub (.cst (.int 0)) (.var 14)) (b := .var 8) (d_sub ev_cst (d_var (t := .int r.2) rfl)) (d_var (t := .str r.1) rfl)
      rw [Int.zero_sub] at this
      exact this) hL
  have e1' := d_map (C := Cn 13) (env := ev ns rows x5 x6 x7 x8 x9 x10 x11 x12 x13 x14 x15 x16) (m := m) (own := [8, 14]) (tg := .many [8, 14]) (it := .of (.var 3)) (e := .tup (.cons (.bin .sub (.cst (.int 0)) (.var 14)) (.cons (.var 8) .nil))) (l := srt rows) (f := rowT) (v := negT) (E := fun r => ev ns rows x5 x6 x7 (some (.str r.1)) x9 x10 x11 x12 x13 (some (.int r.2)) x15 x16)
    (d_of (d_var rfl)) (fun _ _ => rfl) (fun r _ => by
      have := d_tup2 (C := Cn 13) (m := m) (m1 := m) (m2 := m) (env := ev ns rows x5 x6 x7 (some (.str r.1)) x9 x10 x11 x12 x13 (some (.int r.2)) x15 x16) (a := .bin .sub (.cst (.int 0)) (.var 14)) (b := .var 8) (d_sub ev_cst (d_var (t := .int r.2) rfl)) (d_var (t := .str r.1) rfl)
      rw [Int.zero_sub] at this
      exact this) hL
  have e2 := d_sorted (k := (2, [false, true])) e1' (fun _ _ => rfl) (by decide)
  have e3 := d_map (C := Cn 13) (env := ev ns rows x5 x6 x7 x8 x9 x10 x11 x12 x13 x14 x15 x16) (m := m) (own := [5]) (tg := .one 5) (e := .idx (.var 5) (.cst (.int 1))) (l := negs (srt rows)) (f := negT) (v := fun r => .str r.1) (E := fun r => ev ns rows (some (negT r)) x6 x7 x8 x9 x10 x11 x12 x13 x14 x15 x16)
    (d_of e2) (fun _ _ => rfl) (fun r _ => rfl) (by rw [negs_len]; exact hL)
  rw [fst_map] at e3
  exact x_set e3
theorem cutE {C : Ctx} {env : Env} {j : Nat} {l : List Nm} (h13 : env.get 13 = some (LS l)) (h12 : env.get 12 = some (.int (j : Int))) : eval C (.slice (.var 13) (.cst .non) (.var 12)) env m = .ok (LS (l.take j)) m := by
  have := l_take (C := C) (m := m) (m1 := m) (m2 := m) (env := env) (a := .var 13) (hi := .var 12) (xs := l.map T.str) (j := j) (d_var h13) (d_var h12)
  rw [← List.map_take] at this
  exact this
theorem take_few (h : RowsOk rows) (K : Nat) : ((ordr (srt rows)).take K).length ≤ 6 := by
  have := List.length_take_le' K (ordr (srt rows))
  rw [ordr_len, srt_len] at this
  exact Nat.le_trans this h.six
theorem t8 (h : RowsOk rows) (hk : Least (srt rows) K) : exec (Cn 13) s8 (ev ns rows x5 x6 x7 x8 x9 x10 x11 (some (.int K)) (some (LS (ordr (srt rows)))) x14 x15 x16) m = .nxt (ev ns rows x5 x6 x7 x8 x9 x10 x11 (some (.int K)) (some (LS (ordr (srt rows)))) x14 x15 x16) m := by
  unfold s8
  have few := take_few h K
  refine x_ifF (x := .bl false) (same_ev (k := 10) (t := LS (sortBy T.str ((ordr (srt rows)).take K))) (sm_up (sm_ls (by rw [(sortBy_perm T.str _).length_eq]; omega)) (by decide)) (c_call0 (r := (LS (sortBy T.str ((ordr (srt rows)).take K)), false)) (ds_cons (one_of (l := rows.map rowT) rfl) ds_nil) (starters_ok 9 m h.farms hk)) (d_sortS (cutE rfl rfl) (by omega))) rfl
/-! who is judged -/
abbrev ev9 (ns : List Int) (rows : List Row) (K : Nat) (x5 x6 x7 x8 x9 x11 x14 x15 x16 : Option T) : Env := ev ns rows x5 x6 x7 x8 x9 (some (.lst ((good rows).map LS))) x11 (some (.int K)) (some (LS (ordr (srt rows)))) x14 x15 x16
theorem t9_0 (h : RowsOk rows) (hk : Least (srt rows) K) (hs : SP ns n m) : ∃ (lot : List Nm) (m' : Store), Joined rows lot ∧ SP ns n m' ∧ exec (Cn 13) s9_0 (ev9 ns rows K x5 x6 x7 x8 x9 x11 x14 x15 x16) m = .nxt (ev9 ns rows K x5 x6 x7 x8 x9 (some (LS lot)) x14 x15 x16) m' := by
  obtain ⟨⟨g, hg, _⟩, _⟩ := good_least h.farms hk
  have ng : (good rows).map LS ≠ [] := by
    intro e
    have := List.map_eq_nil_iff.mp e
    rw [this] at hg; cases hg
  have nl : (lots (nms rows)).map LS ≠ [] := by
    intro e
    have e1 := List.map_eq_nil_iff.mp e
    have e2 := lots_len (nms rows)
    rw [e1] at e2
    have : 0 < 2 ^ (nms rows).length := Nat.two_pow_pos _
    simp only [List.length_nil] at e2
    omega
  have gf := good_few h
  have lf := lots_few h
  obtain ⟨y1, m1, hy1, s1, q1⟩ := pick_to (k := 11) (s := 1) (env := ev9 ns rows K x5 x6 x7 x8 x9 x11 x14 x15 x16) (m := m) (m1 := m) f14 f15 rfl (a := .var 10) (xs := (good rows).map LS) (d_var rfl) hs ng (by rw [List.length_map]; omega)
  obtain ⟨y2, m2, hy2, s2, q2⟩ := pick_to (k := 11) (s := 1) (env := ev9 ns rows K x5 x6 x7 x8 x9 x11 x14 x15 x16) (m := m1) (m1 := m1) f14 f15 rfl (a := .callF 19 (.cons (.var 4) .nil) []) (xs := (lots (nms rows)).map LS) (lots_call h rfl) s1 nl (by rw [List.length_map]; omega)
  have el : eval (Cn 13) (.list (.cons (.slice (.var 13) (.cst .non) (.var 12)) (.cons (.callF 15 (.cons (.var 1) (.cons (.var 10) .nil)) []) (.cons (.callF 15 (.cons (.var 1) (.cons (.callF 19 (.cons (.var 4) .nil) []) .nil)) []) .nil)))) (ev9 ns rows K x5 x6 x7 x8 x9 x11 x14 x15 x16) m = .ok (.lst [LS ((ordr (srt rows)).take K), y1, y2]) m2 :=
    v_list (ds_cons (cutE rfl rfl) (ds_cons q1 (ds_cons q2 ds_nil))) (show 3 ≤ LINE by decide)
  obtain ⟨y, m3, hy, s3, q3⟩ := pick_to (k := 11) (s := 1) (env := ev9 ns rows K x5 x6 x7 x8 x9 x11 x14 x15 x16) (m := m) f14 f15 rfl el s2 (by simp) (show 3 < 1073741824 by decide)
  obtain ⟨lot, hl, rfl⟩ : ∃ lot, Joined rows lot ∧ y = LS lot := by
    simp only [List.mem_cons, List.not_mem_nil, or_false] at hy
    rcases hy with rfl | rfl | rfl
    · exact ⟨_, take_joined h.farms K, rfl⟩
    · obtain ⟨l, hl, rfl⟩ := List.mem_map.mp hy1
      exact ⟨l, Joined.sub h.farms ((good_mem h.farms).mp hl).1, rfl⟩
    · obtain ⟨l, hl, rfl⟩ := List.mem_map.mp hy2
      exact ⟨l, Joined.sub h.farms (mem_lots.mp hl), rfl⟩
  exact ⟨lot, m3, hl, s3, by unfold s9_0; exact x_set q3⟩
theorem t9_1 (h : RowsOk rows) (hk : Least (srt rows) K) {lot : List Nm} (hj : Joined rows lot) : exec (Cn 13) s9_1 (ev9 ns rows K x5 x6 x7 x8 x9 (some (LS lot)) x14 x15 x16) m = .nxt (ev9 ns rows K x5 x6 x7 x8 x9 (some (LS lot)) x14 x15 x16) m := by
  unfold s9_1
  have hl := hj.len h.farms
  have c1 := ls_in (C := Cn 13) (m := m) (m1 := m) (m2 := m) (env := ev9 ns rows K x5 x6 x7 x8 x9 (some (LS lot)) x14 x15 x16) (a := .callB .sorted (.cons (.var 11) .nil)) (b := .var 10) (x := sortBy T.str lot) (l := good rows) (d_sortS (d_var rfl) (by omega)) (d_var rfl)
  rw [good_has h.farms hj] at c1
  have c2 := i_eq (C := Cn 13) (m := m) (m1 := m) (m2 := m) (env := ev9 ns rows K x5 x6 x7 x8 x9 (some (LS lot)) x14 x15 x16) (a := .callB .len (.cons (.var 11) .nil)) (b := .var 12) (len_map (l := lot) (f := T.str) (d_var rfl)) (d_var rfl)
  have e0 : decide ((lot.length : Int) = (K : Int)) = (lot.length == K) := by
    by_cases e : lot.length = K
    · rw [decide_eq_true (by omega), e]; simp
    · rw [decide_eq_false (by omega), beq_eq_false_iff_ne.mpr e]
  rw [e0] at c2
  have c : eval (Cn 13) (.and (.cmp .isin (.callB .sorted (.cons (.var 11) .nil)) (.var 10)) (.cmp .eq (.callB .len (.cons (.var 11) .nil)) (.var 12))) (ev9 ns rows K x5 x6 x7 x8 x9 (some (LS lot)) x14 x15 x16) m = .ok (.bl (pj (srt rows) (sortBy T.str lot) && (lot.length == K))) m := by
    cases hp : pj (srt rows) (sortBy T.str lot) with
    | false => rw [hp] at c1; exact d_andF c1 rfl
    | true => rw [hp] at c1; exact d_andT c1 rfl c2
  exact x_ifF (x := .bl false) (same_ev (k := 10) (smb _) (c_call0 (r := (.bl (pj (srt rows) (sortBy T.str lot) && (lot.length == K)), false)) (ds_cons (one_of (l := rows.map rowT) rfl) (ds_cons (one_of (l := lot.map T.str) rfl) ds_nil)) (judge_ok 8 m h.farms hj hk)) c) rfl
theorem t9 (h : RowsOk rows) (hk : Least (srt rows) K) (hs : SP ns n m) : ∃ y6 y11 m', SP ns n m' ∧ exec (Cn 13) s9 (ev9 ns rows K x5 x6 x7 x8 x9 x11 x14 x15 x16) m = .nxt (ev9 ns rows K x5 y6 x7 x8 x9 y11 x14 x15 x16) m' := by
  unfold s9
  rw [ex_for, r_one ev_cst (by decide) (by decide), Res.out_ok]
  obtain ⟨env', m', q, y6, y11, rfl, s⟩ := for_all (w := ⟨upFrom 0 6, none, false⟩) (f := fun t env m => (Res.ofO ((Tgt.one 6).set m t env) m).out env fun env m => exec (Cn 13) bod9 env m) (I := fun env m => ∃ y6 y11, env = ev9 ns rows K x5 y6 x7 x8 x9 y11 x14 x15 x16 ∧ SP ns n m) rfl (upFrom 0 6) (fun t ht env m ⟨y6, y11, he, hm⟩ => by
    subst he
    obtain ⟨lot, m1, hj, s1, q1⟩ := t9_0 (x5 := x5) (x6 := some t) (x7 := x7) (x8 := x8) (x9 := x9) (x11 := y11) (x14 := x14) (x15 := x15) (x16 := x16) h hk hm
    refine ⟨_, m1, ?_, some t, some (LS lot), rfl, s1⟩
    show exec (Cn 13) bod9 (ev9 ns rows K x5 (some t) x7 x8 x9 y11 x14 x15 x16) m = _
    unfold bod9
    rw [x_seq q1]
    exact t9_1 h hk hj) (env := ev9 ns rows K x5 x6 x7 x8 x9 x11 x14 x15 x16) (m := m) ⟨x6, x11, rfl, hs⟩
  exact ⟨y6, y11, m', s, q⟩
/-! what is changed -/
def badE : E := .list (.cons (.neg (.cst (.int 1))) (.cons (.cst (.int 41)) (.cons (.cst (.bl true)) .nil)))
theorem t10_1 (h : RowsOk rows) {a : Nm} (ha : a ∈ nms rows) {p : Int} (p0 : 0 ≤ p) (p1 : p < 8) : exec (Cn 13) s10_1 (ev ns rows x5 x6 x7 (some (.str a)) x9 x10 x11 x12 x13 (some (.int p)) x15 x16) m = .nxt (ev ns rows x5 x6 x7 (some (.str a)) x9 x10 x11 x12 x13 (some (.int p)) x15 x16) m := by
  unfold s10_1
  have e := d_map (C := Cn 13) (env := ev ns rows x5 x6 x7 (some (.str a)) x9 x10 x11 x12 x13 (some (.int p)) x15 x16) (m := m) (own := [15, 16]) (tg := .many [15, 16]) (it := .of (.var 3)) (e := .tup (.cons (.var 15) (.cons (.ite (.cmp .eq (.var 15) (.var 8)) (.var 14) (.var 16)) .nil))) (l := srt rows) (f := rowT) (v := fun r => rowT (modR a p r)) (E := fun r => ev ns rows x5 x6 x7 (some (.str a)) x9 x10 x11 x12 x13 (some (.int p)) (some (.str r.1)) (some (.int r.2)))
    (d_of (d_var rfl)) (fun _ _ => rfl) (fun r _ => d_tup2 (d_var rfl) (d_ite (x := .bl (r.1 == a)) (r := r.1 == a) rfl rfl (by unfold modR; cases hb : r.1 == a <;> rfl))) (srt_le h.farms)
  rw [show (srt rows).map (fun r => rowT (modR a p r)) = ((srt rows).map (modR a p)).map rowT by rw [List.map_map]; rfl] at e
  exact x_ifF (x := .bl false) (same_ev (k := 10) (sm_rows (by rw [List.length_map, srt_len]; exact Nat.le_trans h.six (by decide))) (c_call0 (r := (.lst (((srt rows).map (modR a p)).map rowT), false)) (ds_cons (one_of (l := rows.map rowT) rfl) (ds_cons (d_var rfl) (ds_cons (d_var rfl) ds_nil))) (changed_ok 9 m h.farms ha p0 (by omega))) e) rfl
theorem t10_2 (h : RowsOk rows) {a : Nm} (ha : a ∈ nms rows) (hs : SP ns n m) : ∃ m', SP ns n m' ∧ exec (Cn 13) s10_2 (ev ns rows x5 x6 x7 (some (.str a)) x9 x10 x11 x12 x13 x14 x15 x16) m = .nxt (ev ns rows x5 x6 x7 (some (.str a)) x9 x10 x11 x12 x13 x14 x15 x16) m' := by
  obtain ⟨y, m1, hy, s1, q⟩ := pick_to (k := 11) (s := 1) (env := ev ns rows x5 x6 x7 (some (.str a)) x9 x10 x11 x12 x13 x14 x15 x16) (m := m) (m1 := m) f14 f15 rfl (a := badE) (xs := [.int (-1), .int 41, .bl true]) rfl hs (by simp) (show 3 < 1073741824 by decide)
  have hb : Bad y := by
    simp only [List.mem_cons, List.not_mem_nil, or_false] at hy
    exact hy
  refine ⟨m1, s1, ?_⟩
  unfold s10_2
  have c1 := c_call0 (P := P) (k := 13) (f := 22) (env := ev ns rows x5 x6 x7 (some (.str a)) x9 x10 x11 x12 x13 x14 x15 x16) (m := m) (args := .cons (.cst (.int 2)) (.cons (.var 2) (.cons (.var 8) (.cons (.callF 15 (.cons (.var 1) (.cons badE .nil)) []) .nil)))) (r := (.str ['n', 'u', 'm', 'b', 'e', 'r'], false)) (ds_cons ev_cst (ds_cons (d_var rfl) (ds_cons (d_var rfl) (ds_cons q ds_nil)))) (e_number 8 m1 h.farms ha hb)
  have c2 := c_call0 (P := P) (k := 13) (f := 22) (env := ev ns rows x5 x6 x7 (some (.str a)) x9 x10 x11 x12 x13 x14 x15 x16) (m := m1) (args := .cons (.cst (.int 1)) (.cons (.var 2) (.cons (.list (.cons (.var 8) (.cons (.var 8) .nil))) (.cons (.cst (.int 0)) .nil)))) (r := (.str ['t', 'w', 'i', 'c', 'e'], false)) (ds_cons ev_cst (ds_cons (d_var rfl) (ds_cons (v_list (ds_cons (d_var (t := .str a) rfl) (ds_cons (d_var (t := .str a) rfl) ds_nil)) (show 2 ≤ LINE by decide)) (ds_cons ev_cst ds_nil)))) (e_twice 7 m1 h.farms ha)
  exact x_ifF (x := .bl false) (d_orF (s_ne c1 ev_cst) rfl (s_ne c2 ev_cst)) rfl
theorem t10 (h : RowsOk rows) (hs : SP ns n m) : ∃ y8 y14 m', SP ns n m' ∧ exec (Cn 13) s10 (ev ns rows x5 x6 x7 x8 x9 x10 x11 x12 x13 x14 x15 x16) m = .nxt (ev ns rows x5 x6 x7 y8 x9 x10 x11 x12 x13 y14 x15 x16) m' := by
  unfold s10
  rw [ex_for, d_of (d_var (t := LS (nms rows)) rfl), Res.out_ok]
  obtain ⟨env', m', q, y8, y14, rfl, s⟩ := for_all (w := ⟨(nms rows).map T.str, none, false⟩) (f := fun t env m => (Res.ofO ((Tgt.one 8).set m t env) m).out env fun env m => exec (Cn 13) bod10 env m) (I := fun env m => ∃ y8 y14, env = ev ns rows x5 x6 x7 y8 x9 x10 x11 x12 x13 y14 x15 x16 ∧ SP ns n m) rfl ((nms rows).map T.str) (fun t ht env m ⟨y8, y14, he, hm⟩ => by
    obtain ⟨a, ha, rfl⟩ := List.mem_map.mp ht
    subst he
    obtain ⟨p, m1, p0, p1, s1, q1⟩ := draw_to (k := 12) (s := 1) (env := ev ns rows x5 x6 x7 (some (.str a)) x9 x10 x11 x12 x13 y14 x15 x16) f14 rfl (ev_cst (t := .int 8)) hm (by decide) (by decide)
    obtain ⟨m2, s2, q2⟩ := t10_2 (x5 := x5) (x6 := x6) (x7 := x7) (x9 := x9) (x10 := x10) (x11 := x11) (x12 := x12) (x13 := x13) (x14 := some (.int p)) (x15 := x15) (x16 := x16) h ha s1
    refine ⟨_, m2, ?_, some (.str a), some (.int p), rfl, s2⟩
    show exec (Cn 13) bod10 (ev ns rows x5 x6 x7 (some (.str a)) x9 x10 x11 x12 x13 y14 x15 x16) m = _
    unfold bod10
    have q0 : exec (Cn 13) s10_0 (ev ns rows x5 x6 x7 (some (.str a)) x9 x10 x11 x12 x13 y14 x15 x16) m = .nxt (ev ns rows x5 x6 x7 (some (.str a)) x9 x10 x11 x12 x13 (some (.int p)) x15 x16) m1 := by unfold s10_0; exact x_set q1
    rw [x_seq q0, x_seq (t10_1 h ha p0 p1)]
    exact q2) (env := ev ns rows x5 x6 x7 x8 x9 x10 x11 x12 x13 x14 x15 x16) (m := m) ⟨x8, x14, rfl, hs⟩
  exact ⟨y8, y14, m', s, q⟩
theorem t11 (h : RowsOk rows) : exec (Cn 13) s11 (ev ns rows x5 x6 x7 x8 x9 x10 x11 x12 x13 x14 x15 x16) m = .ret (.bl true) false m := by
  unfold s11
  have hn : nobody ∉ nms rows := fun q => h.no (nms_mem.mp q)
  have el : eval (Cn 13) (.list (.cons (.cst (.str ['n', 'o', 'b', 'o', 'd', 'y', 'h', 'e', 'r', 'e'])) .nil)) (ev ns rows x5 x6 x7 x8 x9 x10 x11 x12 x13 x14 x15 x16) m = .ok (LS [nobody]) m := v_list (ds_cons ev_cst ds_nil) (show 1 ≤ LINE by decide)
  have c1 := c_call0 (P := P) (k := 13) (f := 22) (env := ev ns rows x5 x6 x7 x8 x9 x10 x11 x12 x13 x14 x15 x16) (m := m) (args := .cons (.cst (.int 0)) (.cons (.var 2) (.cons (.list (.cons (.cst (.str ['n', 'o', 'b', 'o', 'd', 'y', 'h', 'e', 'r', 'e'])) .nil)) (.cons (.cst (.int 0)) .nil)))) (r := (.str ['u', 'n', 'k', 'n', 'o', 'w', 'n'], false)) (ds_cons ev_cst (ds_cons (d_var rfl) (ds_cons el (ds_cons ev_cst ds_nil)))) (e_steps 7 m h.farms hn)
  have c2 := c_call0 (P := P) (k := 13) (f := 22) (env := ev ns rows x5 x6 x7 x8 x9 x10 x11 x12 x13 x14 x15 x16) (m := m) (args := .cons (.cst (.int 1)) (.cons (.var 2) (.cons (.list (.cons (.cst (.str ['n', 'o', 'b', 'o', 'd', 'y', 'h', 'e', 'r', 'e'])) .nil)) (.cons (.cst (.int 0)) .nil)))) (r := (.str ['u', 'n', 'k', 'n', 'o', 'w', 'n'], false)) (ds_cons ev_cst (ds_cons (d_var rfl) (ds_cons el (ds_cons ev_cst ds_nil)))) (e_judge 7 m h.farms hn)
  have c3 := c_call0 (P := P) (k := 13) (f := 22) (env := ev ns rows x5 x6 x7 x8 x9 x10 x11 x12 x13 x14 x15 x16) (m := m) (args := .cons (.cst (.int 2)) (.cons (.var 2) (.cons (.cst (.str ['n', 'o', 'b', 'o', 'd', 'y', 'h', 'e', 'r', 'e'])) (.cons (.cst (.int 0)) .nil)))) (r := (.str ['u', 'n', 'k', 'n', 'o', 'w', 'n'], false)) (ds_cons ev_cst (ds_cons (d_var rfl) (ds_cons ev_cst (ds_cons ev_cst ds_nil)))) (e_unknown 8 m h.farms hn)
  exact x_ret (d_andT (s_eq c1 ev_cst) rfl (d_andT (s_eq c2 ev_cst) rfl (s_eq c3 ev_cst)))
end
/-! ### the whole -/
abbrev depth : Nat := 14
theorem up0 : ∀ ns : List Int, T.upTos 0 (ns.map T.int) = true
  | [] => rfl
  | n :: ns => by show (true && T.upTos 0 (ns.map T.int)) = true; rw [up0 ns]; rfl
theorem pool13 (ns : List Int) : callN P 13 13 [.scr ns] [] = .ok (.lst (P5 ns 0 0 0 0), true) [] := by
  rw [callN_g (P := P) (i := 13) rfl rfl rfl rfl]
  show alone [] (finish (.ret (.lst (P5 ns 0 0 0 0)) true [])) = _
  rw [fin_ret, alone_ok]
  show (T.upTos 0 (ns.map T.int) && _) = true
  rw [up0 ns]; rfl
theorem sp_start (ns : List Int) : SP ns 1 [.lst (P5 ns 0 0 0 0)] :=
  ⟨rfl, _, rfl, 0, 0, 0, 0, rfl, Int.le_refl 0, Int.natCast_nonneg _, Int.le_refl 0, Int.le_refl 0, Int.le_refl 0⟩
abbrev e1 (ns : List Int) (x1 x2 x3 x4 : Option T) : Env := [some (.scr ns), x1, x2, x3, x4, none, none, none, none, none, none, none, none, none, none, none, none]
theorem law_true (ns : List Int) (h : ns.length ≤ 63) : ∃ m, callN D.prog depth 23 [.scr ns] [] = .ok (.bl true, false) m := by
  have z0 : exec (Cn 13) s0 (e1 ns none none none none) [] = .nxt (e1 ns (some (.obj 0)) none none none) [.lst (P5 ns 0 0 0 0)] := by
    unfold s0
    exact d_setBox (t := .lst (P5 ns 0 0 0 0)) (m1 := []) (n_call (r := (.lst (P5 ns 0 0 0 0), true)) (ts := [.scr ns]) (ds := []) (ds_cons (d_var rfl) ds_nil) (pool13 ns)) rfl
  obtain ⟨rows, n1, m1, b, hr, h1, q1⟩ := pledgesD_ok 10 (sp_start ns)
  have z1 : exec (Cn 13) s1 (e1 ns (some (.obj 0)) none none none) [.lst (P5 ns 0 0 0 0)] = .nxt (e1 ns (some (.obj 0)) (some (.lst (rows.map rowT))) none none) m1 := by
    unfold s1
    exact x_set (c_call0 (r := (.lst (rows.map rowT), b)) (ds_cons (d_var rfl) (ds_cons ev_cst ds_nil)) q1)
  have z2 : exec (Cn 13) s2 (e1 ns (some (.obj 0)) (some (.lst (rows.map rowT))) none none) m1 = .nxt (e1 ns (some (.obj 0)) (some (.lst (rows.map rowT))) (some (.lst ((srt rows).map rowT))) none) m1 := by
    unfold s2
    exact x_set (d_sorted (k := (2, [true, false])) (d_var rfl) (fun _ _ => rfl) (by decide))
  have z3 : exec (Cn 13) s3 (e1 ns (some (.obj 0)) (some (.lst (rows.map rowT))) (some (.lst ((srt rows).map rowT))) none) m1 = .nxt (ev ns rows none none none none none none none none none none none none) m1 := by
    unfold s3
    have e := d_map (C := Cn 13) (env := e1 ns (some (.obj 0)) (some (.lst (rows.map rowT))) (some (.lst ((srt rows).map rowT))) none) (m := m1) (own := [5]) (tg := .one 5) (it := .of (.var 3)) (e := .idx (.var 5) (.cst (.int 0))) (l := srt rows) (f := rowT) (v := fun r => .str r.1) (E := fun r => ev ns rows (some (rowT r)) none none none none none none none none none none none |>.set 4 none)
      (d_of (d_var rfl)) (fun _ _ => rfl) (fun r _ => rfl) (srt_le hr.farms)
    rw [fst_map] at e
    exact x_set e
  obtain ⟨y6, y7, y9, m4, h4, q4⟩ := t4 (x5 := none) (x6 := none) (x7 := none) (x8 := none) (x9 := none) (x10 := none) (x11 := none) (x12 := none) (x13 := none) (x14 := none) (x15 := none) (x16 := none) hr h1
  obtain ⟨K, hk⟩ := least_ex hr.farms
  obtain ⟨z6, z11, m9, h9, q9⟩ := t9 (x5 := none) (x6 := y6) (x7 := y7) (x8 := none) (x9 := y9) (x11 := none) (x14 := none) (x15 := none) (x16 := none) hr hk h4
  obtain ⟨z8, z14, m10, h10, q10⟩ := t10 (x5 := none) (x6 := z6) (x7 := y7) (x8 := none) (x9 := y9) (x10 := some (.lst ((good rows).map LS))) (x11 := z11) (x12 := some (.int K)) (x13 := some (LS (ordr (srt rows)))) (x14 := none) (x15 := none) (x16 := none) hr h9
  refine ⟨m10, ?_⟩
  rw [show depth = 13 + 1 from rfl, callN_f (P := D.prog) (i := 23) rfl rfl rfl]
  have e : exec (Cn 13) b23 (e1 ns none none none none) [] = .ret (.bl true) false m10 := by
    rw [b23_eq, x_seq z0, x_seq z1, x_seq z2, x_seq z3, x_seq q4, x_seq (t5 hr), x_seq (t6 hr hk), x_seq (t7 hr), x_seq (t8 hr hk), x_seq q9, x_seq q10]
    exact t11 hr
  show finish (exec (Cn 13) b23 (e1 ns none none none none) []) = _
  rw [e, fin_ret]
end K69
end

set_option Elab.async false
set_option linter.all false
set_option maxRecDepth 100000
set_option maxHeartbeats 0
namespace K69
open PySem PySem.Spec PyProof.Rows L2 MP
def loose : List Str := "ChooseError" :: "DuplicateName" :: "GREATEST" :: "InvalidName" :: "InvalidNumber" :: "InvalidPaper" :: "LETTERS" :: "LONGEST" :: "MOST" :: "TooMany" :: "UnknownName" :: "_all_join" :: "_law_all_join" :: "_law_draw" :: "_law_lots" :: "_law_names" :: "_law_pick" :: "_law_pledges" :: "_law_pool" :: "_law_refusal" :: "_law_refused" :: "_law_rounds" :: "_law_same" :: "_law_would" :: "changed" :: "checked_joined" :: "checked_name" :: "checked_number" :: "checked_pledges" :: "is_name" :: "is_number" :: "judge_starters" :: "starters" :: "steps" :: "would" :: []
abbrev R : PySem.W.OpenRow := PySem.W.OpenLaw.row PySem.Challenge.rw_manychoose_k69_pledges_won_over
abbrev hk : PySem.W.Hook := He.hookX 5 [] D.fn [] [] D.ex
def ob (s : PySem.W.SharedT) : He.AlX := He.obsX 5 [] D.fn [] [] D.ex (HandSHeadRun.getT s)
theorem ob_eq (s : PySem.W.SharedT) : ob s = hk.obs s.abs := He.obsX_eq (HandSHeadRun.getT_eq s)
theorem run (w : World) : HandSHeadRun.RunEq R (PySem.W.view R.prog [39]) hk ob 6000 loose w := by
  intro os
  kernel_rfl
end K69
open PySem PySem.W PySem.Calls PyProof.Rows
theorem PySem.Challenge.cw_manychoose_k69_pledges_won_over_holds : PySem.Challenge.rw_manychoose_k69_pledges_won_over.Holds := by
  w_on; o_law
  refine HandSHeadRun.head_any (r := OpenLaw.row PySem.Challenge.rw_manychoose_k69_pledges_won_over) (q := view (OpenLaw.row PySem.Challenge.rw_manychoose_k69_pledges_won_over).prog [39]) (H := K69.hk) (ob := K69.ob) (M := 6000) (loose := K69.loose) (d := HandSHeadRun.topDef (OpenLaw.row PySem.Challenge.rw_manychoose_k69_pledges_won_over).prog 39) (kwd := []) K69.ob_eq
    (by kernel_rfl) (fun s => by kernel_rfl) K69.run (by kernel_rfl) (by kernel_rfl) (by kernel_rfl) (by rfl) (by first | assumption | decide +kernel) (by decide +kernel) ⟨rfl, rfl, rfl, rfl, rfl, by decide +kernel⟩ ?hw ?hc
  case hw => w_witness2
  case hc =>
    refine L2.walk_ofE (l := PySem.Challenge.rw_manychoose_k69_pledges_won_over) (n := 63) (k := K69.depth + 3) (x := "script") (CX := L2.CX0) rfl (by decide) (by kernel_rfl) ⟨rfl, by decide, by decide⟩ ?F (fun _ _ _ _ z => z)
    intro w mg fa h Y G hmg0
    have hmg : mg ("law" : PySem.Str) = some (.ref fa) := by
      have e : (HandSHeadRun.topDef (OpenLaw.row PySem.Challenge.rw_manychoose_k69_pledges_won_over).prog 39).name = ("law" : PySem.Str) := by kernel_rfl
      rw [← e]
      exact hmg0
    exact MP.law_F (D := K69.D) (li := 23) (dl := K69.d23) K69.tables K69.binds K69.ah rfl rfl K69.n23 rfl K69.law_true mg fa h Y G hmg
