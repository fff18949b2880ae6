import PyProof.Rows.All
import Wide.All
import OpenK.AllK
import Wide.FinOn
import HandS.ForMost
import HandS.Wide
import KE.DataEq
import HandS.Set
import HandS.Strs
import HandS.SetKeys
import HandS.Star
import HandS.Property
import HandS.Defaults
import HandS.ExcInit
import HandS.ExcOwn
import HandS.ExcIs
import HandS.ExcField
import HandS.CallSlots
import HandS.IsInst
import HandS.Flow
import HandS.Style
import HandS.Walk
import HandS.TryOnly
import HandS.TryMany
import HandS.RaiseMore
import HandS.TupAny
import HandS.WordsExc
import HandS.OwnEq
import PyProof.InstNe
import HandS.Dict
import HandS.Text
import KE.KCallOwn
import HandS.ExcValue
import HandS.HeadHook3
import HandS.HeadEnd
import HandS.Head0
import HandS.Head1
import HandS.Head2
import PyProof.Rows.Walk
import HandS.Comp
import PySem.Challenge.RW_thincoins_k52_questions_told_and_joined
set_option Elab.async false
set_option linter.all false
set_option maxRecDepth 100000
/-! PvA: values as trees, an own small syntax, and what it evaluates to. -/
namespace Pv
open PySem

/-! ### values -/
inductive D where
  | non | bl (b : Bool) | int (i : Int) | str (x : Str) | ty (n : String)
  | tup (xs : List D) | lst (xs : List D) | set (xs : List D)
  | dic (kvs : List (L2.Key × D))
  | ins (c : Nat) (fs : List (Nat × D))
  | cls (c : Nat) | scr (ns : List Int) | exc (c : Nat) (fs : List (Nat × D)) | loc (i : Nat)
  deriving Inhabited

/-- what changes, by number; none: let go -/
abbrev Mu := List (Option D)
abbrev Sl := List (Option D)

inductive Res (α : Type) where
  | ok (a : α) (m : Mu)
  | exc (c : Nat) (fs : List (Nat × D)) (m : Mu)
  | stuck

def Res.bind {α β : Type} : Res α → (α → Mu → Res β) → Res β
  | .ok a m, k => k a m
  | .exc c fs m, _ => .exc c fs m
  | .stuck, _ => .stuck
@[simp] theorem Res.bind_ok {α β : Type} (a : α) (m : Mu) (k : α → Mu → Res β) : (Res.ok a m).bind k = k a m := rfl
@[simp] theorem Res.bind_exc {α β : Type} (c : Nat) (fs : List (Nat × D)) (m : Mu) (k : α → Mu → Res β) : (Res.exc c fs m : Res α).bind k = .exc c fs m := rfl
@[simp] theorem Res.bind_stuck {α β : Type} (k : α → Mu → Res β) : (Res.stuck : Res α).bind k = .stuck := rfl
/-- only under a condition -/
def Res.when {α : Type} (c : Bool) (r : Res α) : Res α := if c then r else .stuck
@[simp] theorem Res.when_true {α : Type} (r : Res α) : Res.when true r = r := rfl
@[simp] theorem Res.when_false {α : Type} (r : Res α) : Res.when false r = .stuck := rfl
def Res.ofOpt {α : Type} (m : Mu) : Option α → Res α
  | some a => .ok a m
  | none => .stuck
@[simp] theorem Res.ofOpt_some {α : Type} (m : Mu) (a : α) : Res.ofOpt m (some a) = .ok a m := rfl
@[simp] theorem Res.ofOpt_none {α : Type} (m : Mu) : Res.ofOpt m (none : Option α) = .stuck := rfl

/-- what stands there -/
def dr (m : Mu) : D → D
  | .loc i => match m[i]? with
    | some (some o) => o
    | _ => .loc i
  | d => d

/-! ### letting go: numbers from b on are put by what they hold -/
mutual
def mapLoc (r : Nat → Option D) : D → Option D
  | .tup xs => (mapLocs r xs).map .tup
  | .lst xs => (mapLocs r xs).map .lst
  | .set xs => some (.set xs)
  | .dic kvs => some (.dic kvs)
  | .ins c fs => (mapLocF r fs).map (.ins c)
  | .exc c fs => (mapLocF r fs).map (.exc c)
  | .loc i => r i
  | .non => some .non
  | .bl b => some (.bl b)
  | .int i => some (.int i)
  | .str x => some (.str x)
  | .ty n => some (.ty n)
  | .cls c => some (.cls c)
  | .scr ns => some (.scr ns)
def mapLocs (r : Nat → Option D) : List D → Option (List D)
  | [] => some []
  | x :: xs => (mapLoc r x).bind fun y => (mapLocs r xs).map (y :: ·)
def mapLocF (r : Nat → Option D) : List (Nat × D) → Option (List (Nat × D))
  | [] => some []
  | (k, x) :: xs => (mapLoc r x).bind fun y => (mapLocF r xs).map ((k, y) :: ·)
end
def putBy (m : Mu) (b : Nat) : Nat → Nat → Option D
  | 0, i => if i < b then some (.loc i) else none
  | n + 1, i => if i < b then some (.loc i) else match m[i]? with
    | some (some o) => mapLoc (putBy m b n) o
    | _ => none
/-- a value without numbers from b on -/
def lay (m : Mu) (b : Nat) (d : D) : Option D := mapLoc (putBy m b 4) d
def layO (m : Mu) (b : Nat) : Option D → Option (Option D)
  | none => some none
  | some d => (lay m b d).map some
def layM (m : Mu) (b : Nat) : Mu → Option Mu
  | [] => some []
  | o :: r => (layO m b o).bind fun x => (layM m b r).map (x :: ·)
/-- slots that cannot be put are forgotten -/
def layS (m : Mu) (b : Nat) (s : Sl) : Sl := s.map fun o => o.bind (lay m b)
/-- the store cut to b -/
def cut (m : Mu) (b : Nat) : Option Mu := layM m b (m.take b)

/-! ### equality and order of values -/
def b2i (b : Bool) : Int := if b then 1 else 0
/-- data, to a depth; none: something else lies within -/
def toPys (f : D → Option PyData) : List D → Option (List PyData)
  | [] => some []
  | x :: xs => (f x).bind fun p => (toPys f xs).map (p :: ·)
def toPy (m : Mu) : Nat → D → Option PyData
  | 0, _ => none
  | n + 1, d => match dr m d with
    | .non => some .none
    | .bl b => some (.bool b)
    | .int i => some (.int i)
    | .str x => some (.str x)
    | .tup xs => (toPys (toPy m n) xs).map .tuple
    | .lst xs => (toPys (toPy m n) xs).map .list
    | _ => none
abbrev pyD (m : Mu) (d : D) : Option PyData := toPy m 60 d
/-- == of data -/
def eqD (m : Mu) (a b : D) : Option Bool := match pyD m a, pyD m b with
  | some p, some q => some (PyData.eqv p q)
  | _, _ => none
/-- x in a row of data -/
def anyD (m : Mu) (x : D) (ys : D) : Option Bool := match pyD m x, pyD m ys with
  | some p, some (.list qs) => some (qs.any fun q => PyData.eqv q p)
  | some p, some (.tuple qs) => some (qs.any fun q => PyData.eqv q p)
  | _, _ => none
def big (n : Nat) : Bool := decide (n ≤ 1000000)
/-- the truth of a value -/
def tru (m : Mu) (d : D) : Option Bool := match dr m d with
  | .non => some false
  | .bl b => some b
  | .int i => some (i != 0)
  | .str x => if big x.length then some (x.length != 0) else none
  | .tup xs => some (!xs.isEmpty)
  | .lst xs => some (!xs.isEmpty)
  | _ => none
/-- a row to be read -/
def sq (m : Mu) (d : D) : Option (List D) := match dr m d with
  | .tup xs => some xs
  | .lst xs => some xs
  | _ => none
def lq (m : Mu) (d : D) : Option (List D) := match dr m d with
  | .lst xs => some xs
  | _ => none
/-- the place of an index -/
def ixAt (n : Nat) (i : Int) : Option Nat :=
  if 0 ≤ i then (if i.toNat < n then some i.toNat else none) else if 0 ≤ i + n then some (i + n).toNat else none
def ixD (xs : List D) (i : Int) : Option D := (ixAt xs.length i).bind fun k => xs[k]?
/-- the bounds of a slice -/
def clip (n : Nat) (d : Nat) : Option Int → Nat
  | none => d
  | some i => if 0 ≤ i then min i.toNat n else (i + n).toNat
def slice {α : Type} (xs : List α) (lo hi : Option Int) : List α :=
  (xs.drop (clip xs.length 0 lo)).take (clip xs.length xs.length hi - clip xs.length 0 lo)

/-! ### the syntax -/
inductive Op2 where
  | add | sub | mul | fdiv | mod | pow | shl | band | bor
  deriving DecidableEq
inductive Cm where
  | eq | ne | lt | le | gt | ge | is_ | isnot | in_ | notin
  deriving DecidableEq
inductive TyR where
  | bty (n : String) | cls (c : Nat)
  deriving DecidableEq
/-- built-in functions -/
inductive Bi where
  | len | int | str | repr | abs | max | min | sum | sorted | set | tuple | list | all | any | dict | bool
  deriving DecidableEq
/-- methods of built-in classes -/
inductive Bm where
  | append | extend | pop | split | join | startswith | get | count | index | add | remove | values | update
  deriving DecidableEq
/-- targets -/
inductive Tg where
  | v (i : Nat)
  | tup (ts : List Tg)

mutual
inductive E where
  | non | bl (b : Bool) | int (i : Int) | str (s : Str)
  | var (i : Nat) | glo (k : Nat)
  | bin (o : Op2) (a b : E) | neg (a : E) | inv (a : E) | not (a : E)
  | cmp (a : E) (o : Cm) (b : E)
  | cmp2 (a : E) (o : Cm) (b : E) (o2 : Cm) (c : E)
  | and (a b : E) | or (a b : E) | ite (c a b : E)
  | tup (es : List E) | lst (k : Bool) (es : List E) | dic0
  | ix (a i : E) | slc (a : E) (lo hi : Option E) | rev (a : E)
  | call (f : Nat) (es : List E) (ks : List Nat) (vs : List E)
  | new (c : Nat) (es : List E) (ks : List Nat) (vs : List E)
  | meth (o : E) (m : Nat) (es : List E) (ks : List Nat) (vs : List E)
  | bi (f : Bi) (k : Bool) (es : List E) | strI (a : E) | bm (o : E) (m : Bm) (es : List E)
  | isi (a : E) (ts : List TyR)
  | fld (o : E) (f : Nat)
  | comp (k : Bool) (e : E) (t : Tg) (it : It) (ifs : List E)
  | comp2 (k : Bool) (e : E) (t : Tg) (it : It) (ifs : List E) (t2 : Tg) (it2 : It) (ifs2 : List E)
inductive It where
  | seq (a : E)
  | rng (es : List E)
  | enum (a : E)
  | zip (es : List E)
end
/-- targets of an assignment -/
inductive Ta where
  | t (t : Tg)
  | fld (o : E) (f : Nat)
  | sub (o i : E)
mutual
inductive S where
  | asg (t : Ta) (e : E)
  | par (ts : List Nat) (es : List E)
  | ex (e : E) | ret (e : E) | retn
  | ite (c : E) (a b : List S)
  | for_ (t : Tg) (it : It) (b : List S)
  | whl (c : E) (b : List S)
  | raise (c : Nat) (es : List E)
  | try_ (b : List S) (hs : List Hd)
  | pass | frz (i : Nat)
inductive Hd where
  | h (c : Nat) (n : Option Nat) (b : List S)
end

/-! ### a program -/
structure Df where
  ps : List Nat
  slots : Nat
  body : List S
  dfl : List D := []
  keep : Bool := false
structure Pr where
  glob : Nat → Option D
  /-- class, name: the def -/
  meth : Nat → Nat → Option Nat
  prop : Nat → Nat → Option Nat
  init : Nat → Option Nat
  eqm : Nat → Option Nat
  strm : Nat → Option Nat
  boolm : Nat → Option Nat
  /-- instances that change -/
  keepC : Nat → Bool
  /-- an exception's fields -/
  exf : Nat → Option (List Nat)
  /-- the classes whose instances are known; those of exceptions -/
  cls : Nat → Bool
  xcls : Nat → Bool
  /-- class, name: an attribute of its instances -/
  fld : Nat → Nat → Bool
  sub : Nat → Nat → Bool
  df : Nat → Option Df

/-! ### what operators make -/
def mulOk (i j : Int) : Bool := (decide (-(2 ^ 64) < i) && decide (i < 2 ^ 64)) || (decide (-(2 ^ 64) < j) && decide (j < 2 ^ 64))
def addD (m : Mu) (a b : D) : Res D := match dr m a, dr m b with
  | .int i, .int j => .ok (.int (i + j)) m
  | .int i, .bl k => .ok (.int (i + b2i k)) m
  | .str x, .str y => .when (big (x.length + y.length)) (.ok (.str (x ++ y)) m)
  | .lst xs, .lst ys => .when (big (xs.length + ys.length)) (.ok (.lst (xs ++ ys)) m)
  | .tup xs, .tup ys => .when (big (xs.length + ys.length)) (.ok (.tup (xs ++ ys)) m)
  | _, _ => .stuck
def subD (m : Mu) (a b : D) : Res D := match dr m a, dr m b with
  | .int i, .int j => .ok (.int (i - j)) m
  | _, _ => .stuck
def mulD (m : Mu) (a b : D) : Res D := match dr m a, dr m b with
  | .int i, .int j => .when (mulOk i j) (.ok (.int (i * j)) m)
  | .lst xs, .int k => .when (decide (-(2 ^ 62) ≤ k) && (decide (k < 2 ^ 62) && big (xs.length * k.toNat))) (.ok (.lst (List.replicate k.toNat xs).flatten) m)
  | _, _ => .stuck
def fdivD (m : Mu) (a b : D) : Res D := match dr m a, dr m b with
  | .int i, .int j => .when (decide (0 < j) && decide (j < 2 ^ 4096)) (.ok (.int (i / j)) m)
  | _, _ => .stuck
def modD (m : Mu) (a b : D) : Res D := match dr m a, dr m b with
  | .int i, .int j => .when (decide (0 < j)) (.ok (.int (i % j)) m)
  | _, _ => .stuck
def powD (m : Mu) (a b : D) : Res D := match dr m a, dr m b with
  | .int i, .int j => .when (decide (0 ≤ j) && (decide (j ≤ 1000000) && (decide (-(2 ^ 64) < i) && decide (i < 2 ^ 64)))) (.ok (.int (i ^ j.toNat)) m)
  | _, _ => .stuck
def op2 (o : Op2) (m : Mu) (a b : D) : Res D := match o with
  | .add => addD m a b
  | .sub => subD m a b
  | .mul => mulD m a b
  | .fdiv => fdivD m a b
  | .mod => modD m a b
  | .pow => powD m a b
  | _ => .stuck
def strLt (x y : Str) : Bool := decide (x.cps.toList < y.cps.toList)
def ltD (m : Mu) (a b : D) (f : Int → Int → Bool) : Res D := match dr m a, dr m b with
  | .int i, .int j => .ok (.bl (f i j)) m
  | _, _ => .stuck
def isN : D → Bool
  | .non => true
  | _ => false
/-- is None, is True, is False -/
def isD (m : Mu) (neg : Bool) (a b : D) : Res D := match a, b with
  | a, .non => .ok (.bl (if neg then !isN a else isN a)) m
  | .bl x, .bl y => .ok (.bl (if neg then !(x == y) else x == y)) m
  | _, _ => .stuck
def inD (m : Mu) (neg : Bool) (a b : D) : Res D := .ofOpt m ((anyD m a b).map fun k => .bl (if neg then !k else k))
def cmpP (o : Cm) (m : Mu) (a b : D) : Res D := match o with
  | .lt => ltD m a b fun i j => decide (i < j)
  | .le => ltD m a b fun i j => decide (i ≤ j)
  | .gt => ltD m a b fun i j => decide (j < i)
  | .ge => ltD m a b fun i j => decide (j ≤ i)
  | .is_ => isD m false a b
  | .isnot => isD m true a b
  | .in_ => inD m false a b
  | .notin => inD m true a b
  | _ => .stuck
/-- the built-in classes that isinstance is asked with -/
def tyNs : List String := ["bool", "int", "str", "tuple", "list", "dict"]
/-- a value's built-in class -/
def tyN : D → Option String
  | .non => some "NoneType"
  | .bl _ => some "bool"
  | .int _ => some "int"
  | .str _ => some "str"
  | .tup _ => some "tuple"
  | .lst _ => some "list"
  | .dic _ => some "dict"
  | _ => none
/-- is a value of the built-in class t one of n -/
def isTy (t n : String) : Bool := t == n || (t == "bool" && n == "int")
/-- a name of one's own class: is d below it -/
def isT (P : Pr) (d : D) : TyR → Option Bool
  | .bty n => if tyNs.contains n then (match tyN d with
    | some t => some (isTy t n)
    | none => (match d with
      | .ins c _ => if P.cls c then some false else none
      | .exc c _ => if P.xcls c then some false else none
      | _ => none)) else none
  | .cls c => if P.cls c || P.xcls c then (match tyN d with
    | some _ => some false
    | none => (match d with
      | .ins c' _ => if P.cls c' then some (P.sub c' c) else none
      | .exc c' _ => if P.xcls c' then some (P.sub c' c) else none
      | _ => none)) else none
def isAny (P : Pr) (d : D) : List TyR → Option Bool
  | [] => some false
  | t :: ts => (isT P d t).bind fun b => if b then some true else isAny P d ts

/-! ### built-in functions -/
def intsOf : List D → Option (List Int)
  | [] => some []
  | .int i :: r => (intsOf r).map (i :: ·)
  | _ :: _ => none
def blsOf : List D → Option (List Bool)
  | [] => some []
  | .bl b :: r => (blsOf r).map (b :: ·)
  | _ :: _ => none
def strsOf : List D → Option (List Str)
  | [] => some []
  | .str x :: r => (strsOf r).map (x :: ·)
  | _ :: _ => none
/-- a new list: by its number, or as a value -/
def mk (k : Bool) (m : Mu) (d : D) : Res D := if k then .ok (.loc m.length) (m ++ [some d]) else .ok d m
def maxI : Int → List Int → Int
  | a, [] => a
  | a, b :: r => maxI (if b > a then b else a) r
def minI : Int → List Int → Int
  | a, [] => a
  | a, b :: r => minI (if b < a then b else a) r
/-- texts without those told ahead -/
def dedupS : List Str → List Str
  | [] => []
  | x :: r => x :: (dedupS r).filter (fun y => decide (y ≠ x))
def insS (x : Str) : List Str → List Str
  | [] => [x]
  | y :: r => if strLt y x then y :: insS x r else x :: y :: r
def sortS : List Str → List Str
  | [] => []
  | x :: r => insS x (sortS r)
def lenD (m : Mu) : List D → Res D
  | [a] => (match dr m a with
    | .str x => .when (big x.length) (.ok (.int x.length) m)
    | .tup xs => .ok (.int xs.length) m
    | .lst xs => .ok (.int xs.length) m
    | _ => .stuck)
  | _ => .stuck
def intD (m : Mu) : List D → Res D
  | [.int i] => .ok (.int i) m
  | [.bl b] => .ok (.int (b2i b)) m
  | _ => .stuck
def absD (m : Mu) : List D → Res D
  | [.int i] => .ok (.int (if i < 0 then -i else i)) m
  | _ => .stuck
def maxD (m : Mu) : List D → Res D
  | [.int i, .int j] => .ok (.int (if j > i then j else i)) m
  | [a] => (match (lq m a).bind intsOf with
    | some (i :: r) => .ok (.int (maxI i r)) m
    | _ => .stuck)
  | _ => .stuck
def minD (m : Mu) : List D → Res D
  | [.int i, .int j] => .ok (.int (if j < i then j else i)) m
  | [a] => (match (lq m a).bind intsOf with
    | some (i :: r) => .ok (.int (minI i r)) m
    | _ => .stuck)
  | _ => .stuck
def sumD (m : Mu) : List D → Res D
  | [a] => (match (lq m a).bind intsOf with
    | some ns => .ok (.int ns.sum) m
    | _ => .stuck)
  | _ => .stuck
def allD (m : Mu) : List D → Res D
  | [a] => (match (lq m a).bind blsOf with
    | some bs => .ok (.bl (bs.all id)) m
    | _ => .stuck)
  | _ => .stuck
def anyD' (m : Mu) : List D → Res D
  | [a] => (match (lq m a).bind blsOf with
    | some bs => .ok (.bl (bs.any id)) m
    | _ => .stuck)
  | _ => .stuck
def strD (m : Mu) : List D → Res D
  | [.str x] => .ok (.str x) m
  | [.int i] => .when (decide (-(2 ^ 1900) < i) && decide (i < 2 ^ 1900)) (.ok (.str (toString i)) m)
  | _ => .stuck
def reprD (m : Mu) : List D → Res D
  | [.int i] => .when (decide (-(2 ^ 1900) < i) && decide (i < 2 ^ 1900)) (.ok (.str (toString i)) m)
  | [.bl b] => .ok (.str (if b then "True" else "False")) m
  | _ => .stuck
def tupleD (m : Mu) : List D → Res D
  | [a] => (match dr m a with
    | .tup xs => .ok (.tup xs) m
    | .lst xs => .ok (.tup xs) m
    | _ => .stuck)
  | _ => .stuck
def listD (k : Bool) (m : Mu) : List D → Res D
  | [a] => (match dr m a with
    | .tup xs => mk k m (.lst xs)
    | .lst xs => mk k m (.lst xs)
    | _ => .stuck)
  | _ => .stuck
def setD (m : Mu) : List D → Res D
  | [a] => (match (lq m a).bind strsOf with
    | some xs => .when (decide (xs.length < 4000)) (.ok (.set ((dedupS xs).map .str)) m)
    | _ => .stuck)
  | _ => .stuck
def sortedD (m : Mu) : List D → Res D
  | [a] => (match dr m a with
    | .set xs => (match strsOf xs with
      | some ys => .when (decide (ys.length < 64)) (.ok (.lst ((sortS ys).map .str)) m)
      | none => .stuck)
    | .lst xs => (match strsOf xs with
      | some ys => .when (decide (ys.length < 64)) (.ok (.lst ((sortS ys).map .str)) m)
      | none => .stuck)
    | _ => .stuck)
  | _ => .stuck
def biD (f : Bi) (k : Bool) (m : Mu) (as : List D) : Res D := match f with
  | .len => lenD m as
  | .int => intD m as
  | .abs => absD m as
  | .max => maxD m as
  | .min => minD m as
  | .sum => sumD m as
  | .all => allD m as
  | .any => anyD' m as
  | .str => strD m as
  | .repr => reprD m as
  | .tuple => tupleD m as
  | .list => listD k m as
  | .set => setD m as
  | .sorted => sortedD m as
  | _ => .stuck
/-- a number's object anew -/
def setM (m : Mu) (i : Nat) (d : D) : Mu := m.set i (some d)
/-- what a method is asked of -/
def bmTy (f : Bm) (d : D) : Bool := match f, d with
  | .append, .lst _ => true
  | .extend, .lst _ => true
  | .pop, .lst _ => true
  | .split, .str _ => true
  | .join, .str _ => true
  | .startswith, .str _ => true
  | .get, .dic _ => true
  | _, _ => false
def appD (o : D) (m : Mu) : List D → Res D
  | [a] => (match o with
    | .loc i => (match m[i]? with
      | some (some (.lst xs)) => .when (big xs.length) (.ok .non (setM m i (.lst (xs ++ [a]))))
      | _ => .stuck)
    | _ => .stuck)
  | _ => .stuck
def extD (o : D) (m : Mu) : List D → Res D
  | [a] => (match o with
    | .loc i => (match m[i]?, dr m a with
      | some (some (.lst xs)), .lst ys => .when (big (xs.length + ys.length)) (.ok .non (setM m i (.lst (xs ++ ys))))
      | _, _ => .stuck)
    | _ => .stuck)
  | _ => .stuck
def popD (o : D) (m : Mu) : List D → Res D
  | [] => (match o with
    | .loc i => (match m[i]? with
      | some (some (.lst xs)) => (match xs[xs.length - 1]? with
        | some y => .ok y (setM m i (.lst xs.dropLast))
        | none => .stuck)
      | _ => .stuck)
    | _ => .stuck)
  | _ => .stuck
def joinD (o : D) (m : Mu) : List D → Res D
  | [a] => (match o, (sq m a).bind strsOf with
    | .str s, some xs => .when (big ((xs.map (·.length)).sum + xs.length * s.length)) (.ok (.str (Txt.join s xs)) m)
    | _, _ => .stuck)
  | _ => .stuck
def splitD (o : D) (m : Mu) : List D → Res D
  | [.str y] => (match o with
    | .str x => .when (decide (0 < y.length) && big x.length) (.ok (.lst ((Txt.split x y).map .str)) m)
    | _ => .stuck)
  | _ => .stuck
def startsD (o : D) (m : Mu) : List D → Res D
  | [.str y] => (match o with
    | .str x => .ok (.bl (Txt.startswith x y)) m
    | _ => .stuck)
  | _ => .stuck
def getD2 (o : D) (m : Mu) : List D → Res D
  | [.str z, d] => (match o with
    | .dic kvs => .ok ((kvs.lookup (Sum.inr z)).getD d) m
    | _ => .stuck)
  | _ => .stuck
def bmD (o : D) (f : Bm) (m : Mu) (as : List D) : Res D := match f with
  | .append => appD o m as
  | .extend => extD o m as
  | .pop => popD o m as
  | .join => joinD o m as
  | .split => splitD o m as
  | .startswith => startsD o m as
  | .get => getD2 o m as
  | _ => .stuck

/-! ### expressions -/
/-- what a def's call gives -/
abbrev Cal := Nat → List D → Mu → Res D
def asBl : D → Mu → Res Bool
  | .bl b, m => .ok b m
  | _, _ => .stuck
/-- what an own == may be asked with -/
def eqOk (c : Nat) (d : D) : Bool := (tyN d).isSome || (match d with
  | .ins c' _ => c' == c
  | _ => false)
/-- x == y, where the left one may have its own == -/
def eqI (P : Pr) (call : Cal) (neg : Bool) (a b : D) (m : Mu) : Res D := match dr m a with
  | .ins c _ => (match P.eqm c with
    | some f => if eqOk c (dr m b) then (call f [a, b] m).bind fun r m => (match r with
      | .bl k => .ok (.bl (if neg then !k else k)) m
      | _ => .stuck) else .stuck
    | none => .stuck)
  | _ => (match dr m b with
    | .ins _ _ => .stuck
    | _ => .ofOpt m ((eqD m a b).map fun k => .bl (if neg then !k else k)))
def cmpD (P : Pr) (call : Cal) (o : Cm) (a b : D) (m : Mu) : Res D := match o with
  | .eq => eqI P call false a b m
  | .ne => eqI P call true a b m
  | o => cmpP o m a b
/-- truth, with an own __bool__ -/
def truI (P : Pr) (call : Cal) (d : D) (m : Mu) : Res Bool := match dr m d with
  | .ins c _ => (match P.boolm c with
    | some f => (call f [d] m).bind asBl
    | none => .stuck)
  | _ => .ofOpt m (tru m d)
def tgIx : Tg → List Nat
  | .v i => [i]
  | .tup ts => tgIxs ts
where tgIxs : List Tg → List Nat
  | [] => []
  | t :: ts => tgIx t ++ tgIxs ts
mutual
def asgT (m : Mu) : Tg → D → Sl → Option Sl
  | .v i, d, s => some (s.set i (some d))
  | .tup ts, d, s => match dr m d with
    | .tup xs => asgTs m ts xs s
    | _ => none
def asgTs (m : Mu) : List Tg → List D → Sl → Option Sl
  | [], [], s => some s
  | t :: ts, d :: ds, s => (asgT m t d s).bind fun s => asgTs m ts ds s
  | _, _, _ => none
end
def wipeA (s : Sl) : List Nat → Sl
  | [] => s
  | v :: vs => (wipeA s vs).set v none
/-- the items of what is walked; a list by its number is not walked -/
def itemsD (d : D) : Option (List D) := match d with
  | .tup xs => some xs
  | .lst xs => some xs
  | _ => none
def rngD : List D → Option (List D)
  | [.int j] => if decide (-(2 ^ 62) ≤ j) && decide (j < 2 ^ 62) then some ((List.range j.toNat).map fun i => D.int ((0 : Int) + (i : Nat))) else none
  | [.int i, .int j] => if (decide (-(2 ^ 62) ≤ i) && decide (i < 2 ^ 62)) && (decide (-(2 ^ 62) ≤ j) && decide (j < 2 ^ 62)) then some ((List.range (j - i).toNat).map fun k => D.int (i + (k : Nat))) else none
  | _ => none
/-- a list made of what is walked: one: an item's part of it -/
def compL (one : D → Mu → Res (Option D)) : List D → List D → Mu → Res (List D)
  | [], acc, m => .ok acc m
  | d :: ds, acc, m => (one d m).bind fun o m => match o with
    | some y => .when (big acc.length) (compL one ds (acc ++ [y]) m)
    | none => compL one ds acc m
/-- the same, an item giving several -/
def compLL (one : D → List D → Mu → Res (List D)) : List D → List D → Mu → Res (List D)
  | [], acc, m => .ok acc m
  | d :: ds, acc, m => (one d acc m).bind fun acc m => compLL one ds acc m
/-- nothing may be raised within -/
def Res.nox {α : Type} : Res α → Res α
  | .exc _ _ _ => .stuck
  | r => r
section
variable (P : Pr) (call : Cal)
/-- an instance is made: the def of __init__ is called with it -/
def newD (c : Nat) (as : List D) (m : Mu) : Res D := match P.init c with
  | some f => (call f (.loc m.length :: as) (m ++ [some (.ins c [])])).bind fun r m2 => match r with
    | .non => if P.keepC c then .ok (.loc m.length) m2 else (match lay m2 m.length (.loc m.length), cut m2 m.length with
      | some o', some m3 => .ok o' m3
      | _, _ => .stuck)
    | _ => .stuck
  | none => .stuck
/-- keywords put in their places; the places that are left by defaults -/
def bindK (ps : List Nat) (as : List D) (ks : List Nat) (vs : List D) (dfl : List D) : Option (List D) :=
  go 0 ps as
where go : Nat → List Nat → List D → Option (List D)
  | _, [], [] => some []
  | _, [], _ :: _ => none
  | k, _ :: ps, a :: as => (go (k + 1) ps as).map (a :: ·)
  | k, p :: r, [] => match ((ks.zip vs).find? fun q => q.1 == p) with
    | some q => (go (k + 1) r []).map (q.2 :: ·)
    | none => (match dfl[k + dfl.length - ps.length]? with
      | some d => if ps.length ≤ k + dfl.length then (go (k + 1) r []).map (d :: ·) else none
      | none => none)
/-- a call by number; keywords, defaults -/
def callK (f : Nat) (as : List D) (ks : List Nat) (vs : List D) (m : Mu) : Res D := match P.df f with
  | some d => (match bindK d.ps as ks vs d.dfl with
    | some as => call f as m
    | none => .stuck)
  | none => .stuck
def fldD (f : Nat) (d : D) (m : Mu) : Res D := match dr m d with
  | .ins c fs => (match fs.lookup f with
    | some v => .when (P.cls c && P.fld c f) (.ok v m)
    | none => (match P.prop c f with
      | some g => (call g [d] m).nox
      | none => .stuck))
  | .exc c fs => .when (P.xcls c && P.fld c f) (.ofOpt m (fs.lookup f))
  | _ => .stuck
def methD (n : Nat) (o : D) (m : Mu) (k : Nat → Res D) : Res D := match dr m o with
  | .ins c fs => (match fs.lookup n, P.meth c n with
    | none, some f => .when (P.cls c) (k f)
    | _, _ => .stuck)
  | _ => .stuck
mutual
def evE : E → Sl → Mu → Res D
  | .non, _, m => .ok .non m
  | .bl b, _, m => .ok (.bl b) m
  | .int i, _, m => .ok (.int i) m
  | .str x, _, m => .ok (.str x) m
  | .var i, s, m => match s[i]? with
    | some (some d) => .ok d m
    | _ => .stuck
  | .glo k, _, m => .ofOpt m (P.glob k)
  | .bin o a b, s, m => (evE a s m).bind fun x m => (evE b s m).bind fun y m => op2 o m x y
  | .neg a, s, m => (evE a s m).bind fun x m => match x with
    | .int i => .ok (.int (-i)) m
    | _ => .stuck
  | .inv _, _, _ => .stuck
  | .not a, s, m => (evE a s m).bind fun x m => (truI P call x m).bind fun b m => .ok (.bl (!b)) m
  | .cmp a o b, s, m => (evE a s m).bind fun x m => (evE b s m).bind fun y m => cmpD P call o x y m
  | .cmp2 a o b o2 c, s, m => (evE a s m).bind fun x m => (evE b s m).bind fun y m => (cmpD P call o x y m).bind fun r m => match r with
    | .bl true => (evE c s m).bind fun z m => cmpD P call o2 y z m
    | .bl false => .ok (.bl false) m
    | _ => .stuck
  | .and a b, s, m => (evE a s m).bind fun x m => (Res.ofOpt m (tru m x)).bind fun k m => if k then evE b s m else .ok x m
  | .or a b, s, m => (evE a s m).bind fun x m => (Res.ofOpt m (tru m x)).bind fun k m => if k then .ok x m else evE b s m
  | .ite c a b, s, m => (evE c s m).bind fun x m => (truI P call x m).bind fun k m => if k then evE a s m else evE b s m
  | .tup es, s, m => (evL es s m).bind fun vs m => .when (big vs.length) (.ok (.tup vs) m)
  | .lst k es, s, m => (evL es s m).bind fun vs m => .when (big vs.length) (mk k m (.lst vs))
  | .dic0, _, m => .ok (.dic []) m
  | .ix a i, s, m => (evE a s m).bind fun x m => (evE i s m).bind fun y m => match dr m x, y with
    | .tup xs, .int j => .ofOpt m (ixD xs j)
    | .lst xs, .int j => .ofOpt m (ixD xs j)
    | .scr ns, .int j => .ofOpt m ((ixAt ns.length j).bind fun k => ns[k]?.map .int)
    | _, _ => .stuck
  | .slc a lo hi, s, m => (evE a s m).bind fun x m => (evO lo s m).bind fun l m => (evO hi s m).bind fun h m => match dr m x with
    | .tup xs => .ok (.tup (slice xs l h)) m
    | .lst xs => .ok (.lst (slice xs l h)) m
    | .scr ns => .ok (.lst ((slice ns l h).map .int)) m
    | _ => .stuck
  | .rev a, s, m => (evE a s m).bind fun x m => match dr m x with
    | .lst xs => .ok (.lst xs.reverse) m
    | _ => .stuck
  | .call f es ks ws, s, m => (evL es s m).bind fun vs m => (evL ws s m).bind fun us m => callK P call f vs ks us m
  | .new c es ks ws, s, m => (evL es s m).bind fun vs m => (evL ws s m).bind fun us m => newD P (fun f as m => callK P call f as ks us m) c vs m
  | .meth o n es ks ws, s, m => (evE o s m).bind fun x m => methD P n x m fun f => (evL es s m).bind fun vs m => (evL ws s m).bind fun us m => callK P call f (x :: vs) ks us m
  | .bi f k es, s, m => (evL es s m).bind fun vs m => biD f k m vs
  | .strI a, s, m => (evE a s m).bind fun x m => match dr m x with
    | .ins c _ => (match P.strm c with
      | some g => (call g [x] m).bind fun r m => (match r with
        | .str z => .ok (.str z) m
        | _ => .stuck)
      | none => .stuck)
    | _ => biD .str false m [x]
  | .bm o f es, s, m => (evE o s m).bind fun x m => .when (bmTy f (dr m x)) ((evL es s m).bind fun vs m => bmD x f m vs)
  | .isi a ts, s, m => (evE a s m).bind fun x m => .ofOpt m ((isAny P (dr m x) ts).map .bl)
  | .fld o f, s, m => (evE o s m).bind fun x m => fldD P call f x m
  | .comp k e t it ifs, s, m => (evI it s m).bind fun ds m => ((compL (fun d m => match asgT m t d (wipeA s (tgIx t)) with
      | some s2 => (evT ifs s2 m).bind fun b m => if b then (evE e s2 m).bind fun y m => .ok (some y) m else .ok none m
      | none => .stuck) ds [] m).bind fun vs m => mk k m (.lst vs)).nox
  | .comp2 k e t it ifs t2 it2 ifs2, s, m => (evI it s m).bind fun ds m => ((compLL (fun d acc m => match asgT m t d (wipeA s (tgIx t ++ tgIx t2)) with
      | some s2 => (evT ifs s2 m).bind fun b m => if b then (evI it2 s2 m).bind fun ds2 m => compL (fun d2 m => match asgT m t2 d2 (wipeA s2 (tgIx t2)) with
          | some s3 => (evT ifs2 s3 m).bind fun b m => if b then (evE e s3 m).bind fun y m => .ok (some y) m else .ok none m
          | none => .stuck) ds2 acc m else .ok acc m
      | none => .stuck) ds [] m).bind fun vs m => mk k m (.lst vs)).nox
def evL : List E → Sl → Mu → Res (List D)
  | [], _, m => .ok [] m
  | e :: es, s, m => (evE e s m).bind fun x m => (evL es s m).bind fun xs m => .ok (x :: xs) m
/-- tests, all of them -/
def evT : List E → Sl → Mu → Res Bool
  | [], _, m => .ok true m
  | e :: es, s, m => (evE e s m).bind fun x m => (truI P call x m).bind fun b m => if b then evT es s m else .ok false m
def evO : Option E → Sl → Mu → Res (Option Int)
  | none, _, m => .ok none m
  | some e, s, m => (evE e s m).bind fun x m => match x with
    | .int i => .ok (some i) m
    | _ => .stuck
def evI : It → Sl → Mu → Res (List D)
  | .seq a, s, m => (evE a s m).bind fun x m => .ofOpt m (itemsD x)
  | .rng es, s, m => (evL es s m).bind fun vs m => .ofOpt m (rngD vs)
  | .enum a, s, m => (evE a s m).bind fun x m => .ofOpt m ((itemsD x).map fun xs => xs.zipIdx.map fun q => D.tup [.int (q.2 : Nat), q.1])
  | .zip _, _, _ => .stuck
end
end

/-! ### statements -/
inductive Fl where
  | nxt (s : Sl) | ret (v : D) | brk (s : Sl) | cnt (s : Sl)
inductive RS where
  | ok (f : Fl) (m : Mu)
  | exc (c : Nat) (fs : List (Nat × D)) (s : Sl) (m : Mu)
  | stuck
/-- an expression's result, what follows -/
def Res.to {α : Type} (s : Sl) : Res α → (α → Mu → RS) → RS
  | .ok a m, k => k a m
  | .exc c fs m, _ => .exc c fs s m
  | .stuck, _ => .stuck
@[simp] theorem Res.to_ok {α : Type} (s : Sl) (a : α) (m : Mu) (k : α → Mu → RS) : (Res.ok a m).to s k = k a m := rfl
@[simp] theorem Res.to_exc {α : Type} (s : Sl) (c : Nat) (fs : List (Nat × D)) (m : Mu) (k : α → Mu → RS) : (Res.exc c fs m : Res α).to s k = .exc c fs s m := rfl
@[simp] theorem Res.to_stuck {α : Type} (s : Sl) (k : α → Mu → RS) : (Res.stuck : Res α).to s k = .stuck := rfl
/-- behind a turn of a loop: what was made within is put by what it holds -/
def leave (b : Nat) (s : Sl) (m : Mu) : Option (Sl × Mu) :=
  if m.length = b then some (s, m) else (cut m b).map fun m2 => (layS m b s, m2)
def forL (b : Nat) (turn : D → Sl → Mu → RS) : List D → Sl → Mu → RS
  | [], s, m => .ok (.nxt s) m
  | d :: ds, s, m => match turn d s m with
    | .ok (.nxt s) m => (match leave b s m with
      | some (s, m) => forL b turn ds s m
      | none => .stuck)
    | .ok (.cnt s) m => (match leave b s m with
      | some (s, m) => forL b turn ds s m
      | none => .stuck)
    | .ok (.brk s) m => .ok (.nxt s) m
    | r => r
def whL (b : Nat) (test : Sl → Mu → Res Bool) (turn : Sl → Mu → RS) : Nat → Sl → Mu → RS
  | 0, _, _ => .stuck
  | n + 1, s, m => (test s m).to s fun k m => if k then (match turn s m with
    | .ok (.nxt s) m => (match leave b s m with
      | some (s, m) => whL b test turn n s m
      | none => .stuck)
    | .ok (.cnt s) m => (match leave b s m with
      | some (s, m) => whL b test turn n s m
      | none => .stuck)
    | .ok (.brk s) m => .ok (.nxt s) m
    | r => r) else .ok (.nxt s) m
def setIx (xs : List D) (i : Int) (v : D) : Option (List D) := (ixAt xs.length i).map fun k => xs.set k v
def setF (f : Nat) (v : D) : List (Nat × D) → List (Nat × D)
  | [] => [(f, v)]
  | q :: r => if q.1 = f then (f, v) :: r else q :: setF f v r
/-- the fields of an exception that is raised -/
def excF (P : Pr) (c : Nat) (vs : List D) : Option (List (Nat × D)) := (P.exf c).bind fun fs => if fs.length = vs.length then some (fs.zip vs).reverse else none
def parS : List Nat → List D → Sl → Option Sl
  | [], [], s => some s
  | i :: is, d :: ds, s => parS is ds (s.set i (some d))
  | _, _, _ => none
section
variable (P : Pr) (call : Cal)
def asgA (t : Ta) (d : D) (s : Sl) (m : Mu) : RS := match t with
  | .t t => (match asgT m t d s with
    | some s => .ok (.nxt s) m
    | none => .stuck)
  | .fld o f => (evE P call o s m).to s fun x m => (match x with
    | .loc i => (match m[i]? with
      | some (some (.ins c fs)) => if P.cls c && (P.fld c f && decide (fs.length < 1000)) then .ok (.nxt s) (setM m i (.ins c (setF f d fs))) else .stuck
      | _ => .stuck)
    | _ => .stuck)
  | .sub o i => (evE P call o s m).to s fun x m => (evE P call i s m).to s fun y m => (match x, y with
    | .loc a, .int j => (match m[a]? with
      | some (some (.lst xs)) => (match setIx xs j d with
        | some ys => .ok (.nxt s) (setM m a (.lst ys))
        | none => .stuck)
      | _ => .stuck)
    | _, _ => .stuck)
def seqR (r : RS) (k : Sl → Mu → RS) : RS := match r with
  | .ok (.nxt s) m => k s m
  | r => r
mutual
def evS : S → Sl → Mu → RS
  | .asg t e, s, m => (evE P call e s m).to s fun d m => asgA P call t d s m
  | .par ts es, s, m => (evL P call es s m).to s fun vs m => (match parS ts vs s with
    | some s => .ok (.nxt s) m
    | none => .stuck)
  | .ex e, s, m => (evE P call e s m).to s fun _ m => .ok (.nxt s) m
  | .ret e, s, m => (evE P call e s m).to s fun d m => .ok (.ret d) m
  | .retn, _, m => .ok (.ret .non) m
  | .ite c a b, s, m => (evE P call c s m).to s fun x m => (truI P call x m).to s fun k m => if k then evSs a s m else evSs b s m
  | .for_ t it b, s, m => (evI P call it s m).to s fun ds m => forL m.length (fun d s m => match asgT m t d s with
    | some s => evSs b s m
    | none => .stuck) ds s m
  | .whl c b, s, m => whL m.length (fun s m => (evE P call c s m).bind fun x m => truI P call x m) (fun s m => evSs b s m) 1000000 s m
  | .raise c es, s, m => (evL P call es s m).to s fun vs m => (match excF P c vs with
    | some fs => .exc c fs s m
    | none => .stuck)
  | .try_ b hs, s, m => match evSs b s m with
    | .exc c fs s m => evH hs c fs s m
    | r => r
  | .pass, s, m => .ok (.nxt s) m
  | .frz _, _, _ => .stuck
def evSs : List S → Sl → Mu → RS
  | [], s, m => .ok (.nxt s) m
  | t :: ts, s, m => seqR (evS t s m) fun s m => evSs ts s m
def evH : List Hd → Nat → List (Nat × D) → Sl → Mu → RS
  | [], c, fs, s, m => .exc c fs s m
  | .h k n b :: hs, c, fs, s, m => if P.xcls c && P.xcls k then (if P.sub c k then (match n with
    | some i => (match evSs b (s.set i (some (.exc c fs))) m with
      | .ok (.nxt s) m => .ok (.nxt (s.set i none)) m
      | .ok (.brk s) m => .ok (.brk (s.set i none)) m
      | .ok (.cnt s) m => .ok (.cnt (s.set i none)) m
      | .ok (.ret d) m => .ok (.ret d) m
      | _ => .stuck)
    | none => (match evSs b s m with
      | .ok f m => .ok f m
      | _ => .stuck)) else evH hs c fs s m) else .stuck
end
end
/-- a def's end: what was made within is put by what it holds; keep: its result is a number -/
def endR (keep : Bool) (b : Nat) (v : D) (m : Mu) : Res D :=
  if m.length = b then .ok v m
  else if keep then (match v with
    | .loc i => (match m[i]? with
      | some (some o) => if b ≤ i then (match lay (m.set i none) b o, cut (m.set i none) b with
        | some o, some m2 => .ok (.loc b) (m2 ++ [some o])
        | _, _ => .stuck) else .stuck
      | _ => .stuck)
    | _ => .stuck)
  else (match lay m b v, cut m b with
    | some v, some m2 => .ok v m2
    | _, _ => .stuck)
def layF (m : Mu) (b : Nat) : List (Nat × D) → Option (List (Nat × D)) := mapLocF (putBy m b 4)
def endX (b : Nat) (c : Nat) (fs : List (Nat × D)) (m : Mu) : Res D :=
  if m.length = b then .exc c fs m
  else (match layF m b fs, cut m b with
    | some fs, some m2 => .exc c fs m2
    | _, _ => .stuck)
def slots0 (d : Df) (as : List D) : Sl := as.map some ++ List.replicate (d.slots - as.length) none
def runD (d : Df) (r : RS) (b : Nat) : Res D := match r with
  | .ok (.ret v) m => endR d.keep b v m
  | .ok (.nxt _) m => endR d.keep b .non m
  | .exc c fs _ m => endX b c fs m
  | _ => .stuck
/-- calls, so many within one another -/
def run (P : Pr) : Nat → Cal
  | 0, _, _, _ => .stuck
  | n + 1, f, as, m => match P.df f with
    | some d => if as.length = d.ps.length then runD d (evSs P (run P n) d.body (slots0 d as) m) m.length else .stuck
    | none => .stuck
example (P : Pr) (c : Cal) (s : Sl) (m : Mu) : evE P c (.bin .add (.int 3) (.int 4)) s m = .ok (.int 7) m := rfl
example (P : Pr) (c : Cal) (s : Sl) (m : Mu) : evS P c (.ret (.bin .add (.int 3) (.int 4))) s m = .ok (.ret (.int 7)) m := rfl
end Pv

set_option Elab.async false
set_option linter.all false
set_option autoImplicit false
set_option maxRecDepth 100000
set_option maxHeartbeats 3200000
/-! PvSr: sets of texts whose table can be walked: set(xs), sorted(s). The proofs follow the library's of sets of ints, over another kind of key. -/
namespace Pv
open PySem PySem.Spec PyProof.Rows L2
def keyS (e : Int × Value) : Str := match e.2 with | .str k _ => k | _ => Str.empty
def GoodS (w : World) (e : Int × Value) : Prop := ∃ k tk, e.2 = Value.str k tk ∧ e.1 = hashStr w k
/-- the set of texts at a: S its members, n their number -/
def SetS (w : World) (h : Heap) (a : Addr) (S : Str → Bool) (n : Nat) : Prop :=
  ∃ o es ep t, h.get? a = some o ∧ o.ExactSet ∧ o.data = .set es ep t ∧ (∀ e ∈ es.toList, GoodS w e) ∧ (es.toList.map keyS).Nodup ∧ (∀ k, S k = true ↔ k ∈ es.toList.map keyS) ∧
    es.size < scanBound ∧ t.fits es.size = true ∧ es.size = n ∧ Ris t.place.toList ∧ (w.params.followText "set-order" = true ∨ t.led = true)
section
variable {P : Program} {w : World} {h h' : Heap} {a : Addr} {S : Str → Bool} {n : Nat}
theorem SetS.at (R : SetS w h a S n) (k : ∀ o, h.get? a = some o → h'.get? a = some o) : SetS w h' a S n := by
  obtain ⟨o, es, ep, t, ho, r⟩ := R
  exact ⟨o, es, ep, t, k o ho, r⟩
theorem SetS.congr {S' : Str → Bool} (R : SetS w h a S n) (e : ∀ k, S' k = S k) : SetS w h a S' n := by
  have q : S' = S := funext e
  rw [q]; exact R
theorem goodS_elems {l : List (Int × Value)} (g : ∀ e ∈ l, GoodS w e) : ElemsOf (PySem.strKind P w) l := fun e he => by
  obtain ⟨k, tk, h1, h2⟩ := g e he
  exact ⟨⟨k, by rw [h1]; exact strKind_is P w k tk, h2⟩, by rw [h1] <;> rfl⟩
theorem goodS_is {e : Int × Value} (g : GoodS w e) (k : Str) : (PySem.strKind P w).is k e.2 = true ↔ keyS e = k := by
  obtain ⟨k0, tk, h1, _⟩ := g
  unfold keyS
  rw [h1]
  constructor
  · intro z
    exact (PySem.strKind P w).inj _ _ _ (strKind_is P w k0 tk) z
  · intro z
    simp only at z
    rw [← z]
    exact strKind_is P w k0 tk
theorem goodS_mem {l : List (Int × Value)} (g : ∀ e ∈ l, GoodS w e) (k : Str) : k ∈ l.map keyS ↔ ∃ e ∈ l, (PySem.strKind P w).is k e.2 = true := by
  rw [List.mem_map]
  exact ⟨fun ⟨e, he, q⟩ => ⟨e, he, (goodS_is (g e he) k).2 q⟩, fun ⟨e, he, q⟩ => ⟨e, he, (goodS_is (g e he) k).1 q⟩⟩
end
section
variable {P : Program} {w : World} {A : Around} {E : Value → Shared → Prop} {s : Shared} {a : Addr} {S : Str → Bool} {n : Nat}
theorem setS_add_tail {g : Bool → Sem Unit} (hg : ∀ (b : Bool) (s₁ : Shared) (Q' : Unit → Shared → Prop), Q' () s₁ → wpAny (model P w) A (g b) Q' E s₁)
    {o : Obj} {es : Array (Int × Value)} {ep : Nat} {t : SetTable} (ho : s.heap.get? a = some o) (hex : o.ExactSet) (hd : o.data = .set es ep t)
    {es1 : Array (Int × Value)} {t2 : SetTable} {S' : Str → Bool} (g1 : ∀ e ∈ es1.toList, GoodS w e) (nd1 : (es1.toList.map keyS).Nodup) (m1 : ∀ k, S' k = true ↔ k ∈ es1.toList.map keyS)
    (hb1 : es1.size < scanBound) (hf2 : t2.fits es1.size = true) (hr : Ris t2.place.toList) (hl : w.params.followText "set-order" = true ∨ t2.led = true) {wasDummy : Bool} {R : Option Bool → Shared → Prop}
    (hR : ∀ h', Heap.SameBut a s.heap h' → SetS w h' a S' es1.size → R (some true) { s with heap := h' }) :
    wpAny (model P w) A (do
        storeSet a es1 t2
        if (!wasDummy && t2.tooFull) = true then do
            g (relayAll t2 es1 (SetTable.grown es1.size)).2.2
            storeSet a (relayAll t2 es1 (SetTable.grown es1.size)).1 (relayAll t2 es1 (SetTable.grown es1.size)).2.1
            pure (some true)
          else pure (some true)) R E s := by
  refine wpAny_bind (wpAny_storeSet_of ho hd ?_ (fits_of_scanBound hb1))
  have ho1 := store_at (es' := es1) (t' := t2) ho hd
  have sb1 := Heap.SameBut.update s.heap a (Obj.putSet es1 t2)
  split
  · have pm := relayAll_perm t2 es1 (SetTable.grown es1.size)
    have hf3 := relayAll_fits t2 es1 (SetTable.grown es1.size)
    have hr3 := relayAll_ris t2 es1 (SetTable.grown es1.size)
    have hl3 := relayAll_led t2 es1 (SetTable.grown es1.size)
    generalize relayAll t2 es1 (SetTable.grown es1.size) = Z at pm hf3 hr3 hl3 ⊢
    obtain ⟨es2, t3, gave⟩ := Z
    dsimp only at pm hf3 hr3 hl3 ⊢
    have hsz : es2.size = es1.size := by rw [← Array.length_toList, pm.length_eq, Array.length_toList]
    have hb2 : es2.size < scanBound := by rw [hsz]; exact hb1
    refine wpAny_bind (hg _ _ _ ?_)
    refine wpAny_bind (wpAny_storeSet_of ho1 rfl ?_ (fits_of_scanBound hb2))
    have ho2 := store_at (es' := es2) (t' := t3) ho1 rfl
    refine wpAny_pure (hR _ (sb1.trans (Heap.SameBut.update _ a _)) ?_)
    exact ⟨_, es2, _, t3, ho2, hex, rfl, fun e he => g1 e (pm.mem_iff.mp he), (pm.map keyS).nodup_iff.mpr nd1, fun k => (m1 k).trans (pm.map keyS).mem_iff.symm, hb2, hf3, hsz, hr3,
      hl.imp id fun z => by rw [hl3]; exact z⟩
  · exact wpAny_pure (hR _ sb1 ⟨_, es1, _, t2, ho1, hex, rfl, g1, nd1, m1, hb1, hf2, rfl, hr, hl⟩)
theorem setS_add_hashed {k : Str} {tk : Tok} {Q : Bool → Shared → Prop} (R : SetS w s.heap a S n) (room : n + 1 < scanBound)
    (hQ : ∀ h', Heap.SameBut a s.heap h' → SetS w h' a (fun j => S j || decide (j = k)) (if S k = true then n else n + 1) → Q (!S k) { s with heap := h' }) :
    wpAny (model P w) A (setAddHashed a (.str k tk) ((PySem.strKind P w).hash k)) Q E s := by
  obtain ⟨o, es, ep, t, ho, hex, hd, g, nd, hm, hb, hf, hn, hr, hl⟩ := R
  have hkey : (PySem.strKind P w).is k (.str k tk) = true := strKind_is P w k tk
  have hsc : (Value.str k tk).scannable = true := rfl
  have hel : ElemsOf (PySem.strKind P w) es.toList := goodS_elems g
  unfold setAddHashed setAddHashedIn
  refine wpAny_holding (wpAny_bind (wpAny_setState_of ho hd hf ?_))
  dsimp only
  rw [byScan_of hsc hb hel]
  simp only [↓reduceIte]
  unfold setAddByScan
  refine wpAny_bind ?_
  refine wpAny_bind (wpAny_rule ?_)
  refine wpAny_bind (wpAny_setScan_of hkey ho hd hf hel ?_)
  cases hfi : List.findIdx? (fun e => (PySem.strKind P w).is k e.2) es.toList with
  | some j =>
    dsimp only
    obtain ⟨hj, pj, _⟩ := List.findIdx?_eq_some_iff_getElem.mp hfi
    have hSk : S k = true := (hm k).2 ((goodS_mem (P := P) (w := w) g k).2 ⟨es.toList[j], List.getElem_mem hj, pj⟩)
    refine wpAny_pure (wpAny_pure ?_)
    have q := hQ s.heap (Heap.SameBut.refl a s.heap) ⟨o, es, ep, t, ho, hex, hd, g, nd, fun i => by
      rw [Bool.or_eq_true, decide_eq_true_eq, ← hm i]
      exact ⟨fun z => z.elim id (fun e => e ▸ hSk), .inl⟩, hb, hf, by rw [if_pos hSk]; exact hn, hr, hl⟩
    rw [hSk] at q
    exact q
  | none =>
    dsimp only
    have hnk : k ∉ es.toList.map keyS := fun z => by
      obtain ⟨e, he, q⟩ := (goodS_mem (P := P) (w := w) g k).1 z
      have c := List.findIdx?_eq_none_iff.mp hfi e he
      rw [q] at c
      cases c
    have hSk : S k = false := by
      cases q : S k with
      | false => rfl
      | true => exact absurd ((hm k).1 q) hnk
    have hgw : ∀ (b : Bool) {s₁ : Shared} {Q' : Unit → Shared → Prop}, Q' () s₁ → wpAny (model P w) A (match b with | true => rule "set.scan.the-table-gave-way" | false => pure ()) Q' E s₁ :=
      fun b s₁ Q' q => by cases b <;> first | exact wpAny_pure q | exact wpAny_rule q
    have pm := layNew_perm t es ((PySem.strKind P w).hash k) (.str k tk)
    have hf1 := layNew_fits t es ((PySem.strKind P w).hash k) (.str k tk)
    have hr1 := layNew_ris t es ((PySem.strKind P w).hash k) (.str k tk) hr
    have hl1 := layNew_led t es ((PySem.strKind P w).hash k) (.str k tk)
    generalize layNew t es ((PySem.strKind P w).hash k) (.str k tk) = Z at pm hf1 hr1 hl1 ⊢
    obtain ⟨es1, t1, wasDummy, gave⟩ := Z
    dsimp only at pm hf1 hr1 hl1 ⊢
    rw [Array.toList_push] at pm
    have pc : es1.toList.Perm (((PySem.strKind P w).hash k, Value.str k tk) :: es.toList) := pm.trans (List.perm_append_singleton _ _)
    have pk : (es1.toList.map keyS).Perm (k :: es.toList.map keyS) := pc.map keyS
    have g1 : ∀ e ∈ es1.toList, GoodS w e := fun e he => by
      rcases List.mem_cons.mp (pc.mem_iff.mp he) with z | z
      · rw [z]; exact ⟨k, tk, rfl, rfl⟩
      · exact g e z
    have nd1 : (es1.toList.map keyS).Nodup := pk.nodup_iff.mpr (List.nodup_cons.mpr ⟨hnk, nd⟩)
    have m1 : ∀ i, (S i || decide (i = k)) = true ↔ i ∈ es1.toList.map keyS := fun i => by
      rw [Bool.or_eq_true, decide_eq_true_eq, hm i, pk.mem_iff, List.mem_cons]
      exact Or.comm
    have hsz : es1.size = n + 1 := by rw [← Array.length_toList, pc.length_eq, List.length_cons, Array.length_toList, hn]
    have hb1 : es1.size < scanBound := by rw [hsz]; exact room
    have hled : w.params.followText "set-order" = true ∨ t1.led = true := hl.imp id fun z => by rw [hl1]; exact z
    have fin : ∀ h', Heap.SameBut a s.heap h' → SetS w h' a (fun j => S j || decide (j = k)) es1.size → Q true { s with heap := h' } := fun h' sb r => by
      have q := hQ h' sb
      rw [hSk] at q
      rw [hsz] at r
      exact q r
    refine wpAny_bind (hgw _ ?_)
    split
    · refine wpAny_bind ?_
      rw [hashByValue_scannable 8 hsc]
      refine wpAny_pure ?_
      refine setS_add_tail ?_ ho hex hd g1 nd1 m1 hb1 ?_ ?_ ?_ ?_
      · intro b s₁ Q' q; cases b <;> first | exact wpAny_pure q | exact wpAny_rule q
      · first | (split <;> first | exact hf1 | exact SetTable.fits_plain_off hf1) | exact hf1
      · first | (split <;> exact hr1) | exact hr1
      · first | (split <;> exact hled) | exact hled
      · intro h' sb r; dsimp only; exact wpAny_pure (fin h' sb r)
    · refine wpAny_bind (wpAny_pure ?_)
      simp only [↓reduceIte]
      refine setS_add_tail ?_ ho hex hd g1 nd1 m1 hb1 hf1 hr1 hled ?_
      · intro b s₁ Q' q; cases b <;> first | exact wpAny_pure q | exact wpAny_rule q
      · intro h' sb r; dsimp only; exact wpAny_pure (fin h' sb r)
theorem setS_fresh (w : World) {h : Heap} {dd : Obj} {a : Addr} (hh : h.get? a = some { cls := .type "set", dict := none, data := .set #[] 0 (.fresh 0 0 (!w.params.followText "set-order")) }) : SetS w h a (fun _ => false) 0 :=
  ⟨_, #[], 0, _, hh, ⟨rfl, rfl, rfl⟩, rfl, (fun e he => by simp at he), (by simp), (fun k => by simp), (by decide), (by rfl), rfl, List.Pairwise.nil, by
    show _ ∨ (!w.params.followText "set-order") = true
    cases w.params.followText "set-order"
    · exact .inr rfl
    · exact .inl rfl⟩
theorem code_set_led1 (v : Value) {Q₁ : Value → Shared → Prop}
    (h : Q₁ (.ref s.heap.objs.size) { s with heap := s.heap.push { cls := .type "set", dict := none, data := .set #[] 0 (.fresh 0 0 (!w.params.followText "set-order")) } }) :
    codeAny (model P w) A (.call (.builtin "set.__new__") ⟨[.type "set", v], []⟩) (wants Q₁ E) s := by
  refine codeAny_of_tree ?_
  show wpAny _ A.in1 (do checkBuiltinCall "set.__new__" ⟨[.type "set", v], []⟩; again (.builtin "set.__new__" ⟨[.type "set", v], []⟩)) _ _ s
  refine wpAny_bind (wpAny_of_eq (PySem.F.newCall_set_1 v) (wpAny_pure ⟨plainId_quiet F.plain_set_new _, codeAny_builtin F.entry_set_new ?_⟩))
  rw [Around.under_plainId F.plain_set_new _]
  unfold Builtin.«set.__new__» Builtin.Frozenset.newClass
  have hsub := sub_set_self
  obtain ⟨hp, g, d, tk, os⟩ := s
  dsimp only
  wp_walk
  refine wpAny_askSetting (wpAny_pure ?_)
  dsimp only
  simp only [newObj]
  refine wpAny_bind (wpAny_alloc (wpAny_pure ?_))
  exact wpAny_pure h
/-- what a row's first i texts hold -/
def mem1 (xs : List Str) (k : Str) : Bool := decide (k ∈ xs)
theorem mem1_succ {xs : List Str} {i : Nat} {x : Str} (h : xs[i]? = some x) (k : Str) : (mem1 (xs.take i) k || decide (k = x)) = mem1 (xs.take (i + 1)) k := by
  unfold mem1
  rw [List.take_add_one, h]
  simp only [Option.toList, List.mem_append, List.mem_singleton]
  by_cases h1 : k ∈ xs.take i <;> by_cases h2 : k = x <;> simp [h1, h2]
end
section
variable {prog : Program} {w : World} {A : Around} {R : Result → Shared → Prop} {I : Addr} {fp wr : List Addr} {G : Array GenState → Array GenState → Prop} {n : Nat} {P : Nat → Value → Prop} {St : Nat → Shared → Prop}
theorem setS_loop (W : WalksS prog w A.in1 I fp wr G n P St) (S : Addr) (hSf : S ∉ fp) (xs : List Str) (hsz : xs.length = n) (hb : n + 1 < scanBound)
    (hval : ∀ i v, P i v → ∃ x t, xs[i]? = some x ∧ v = .str x t) :
    ∀ (k i : Nat) (s : Shared), n - i = k → i ≤ n → St i s → (∃ m, m ≤ i ∧ SetS w s.heap S (mem1 (xs.take i)) m) →
      (∀ s', Moved (S :: wr) G s s' → (∃ m, m ≤ n ∧ SetS w s'.heap S (mem1 xs) m) → R (.ok (.ret .none)) s') →
      codeAny (model prog w) A (.builtin "set.update.loop" ⟨[.ref S, .ref I], []⟩) R s := by
  have hSw : S ∉ wr := fun h => hSf (W.sub _ h)
  have hsub : ∀ b ∈ wr, b ∈ S :: wr := fun b hb => List.mem_cons_of_mem _ hb
  intro k
  induction k with
  | zero =>
    intro i s hk hi hst hS hR
    have hin : i = n := by omega
    subst hin
    refine codeAny_builtin PyProof.Rows.F.entry_set_update_loop ?_
    rw [Around.under_plainId PyProof.Rows.F.plain_set_update_loop _]
    show wpAny _ A.in1 (pyNext (.ref I) >>= _) _ _ s
    refine wpAny_bind (W.done s _ _ hst fun s' hm => ?_)
    show wpAny _ A.in1 (ret Value.none) _ _ s'
    obtain ⟨m, h1, h2⟩ := hS
    rw [← hsz, List.take_length] at h2
    exact wpAny_pure (hR s' (hm.mono hsub) ⟨m, h1, h2.at fun o e => hm.heap S _ hSw e⟩)
  | succ k ih =>
    intro i s hk hi hst hS hR
    have hlt : i < n := by omega
    refine codeAny_builtin PyProof.Rows.F.entry_set_update_loop ?_
    rw [Around.under_plainId PyProof.Rows.F.plain_set_update_loop _]
    show wpAny _ A.in1 (pyNext (.ref I) >>= _) _ _ s
    refine wpAny_bind (W.item i s _ _ hlt hst fun v s' hP hst' hm => ?_)
    obtain ⟨x, t, hx, rfl⟩ := hval i v hP
    obtain ⟨m, h1, h2⟩ := hS
    have hS' : SetS w s'.heap S (mem1 (xs.take i)) m := h2.at fun o e => hm.heap S _ hSw e
    show wpAny _ A.in1 (holding [Value.str x t] (setAdd S (.str x t)) >>= _) _ _ s'
    refine wpAny_bind (wpAny_holding ?_)
    unfold setAdd
    refine wpAny_holding ?_
    refine wpAny_bind ((PySem.strKind prog w).pyHash (k := x) (strKind_is _ _ _ _) ?_)
    refine setS_add_hashed (s := { s' with toks := s'.toks + 1 }) hS' (by omega) fun h' hsb hS2 => ?_
    have hSi : ∃ m, m ≤ i + 1 ∧ SetS w h' S (mem1 (xs.take (i + 1))) m := by
      refine ⟨_, ?_, hS2.congr fun k' => (mem1_succ hx k').symm⟩
      split <;> omega
    refine wpAny_pure ⟨plainId_quiet PyProof.Rows.F.plain_set_update_loop _, ih (i + 1) _ (by omega) hlt (W.frame _ s' _ _ hst' (Nat.le_succ _) fun b hb o e => ?_) hSi fun s'' hm'' hS'' => ?_⟩
    · rw [hsb.2 b (fun h : b = S => hSf (by rw [← h]; exact hb))]; exact e
    · refine hR s'' (Moved.trans W.gtrans ((hm.mono hsub).then_heap (Nat.le_succ _) fun b o hb e => ?_) hm'') hS''
      rw [hsb.2 b (fun h : b = S => hb (by rw [h]; exact List.mem_cons_self))]; exact e
end
section
variable {prog : Program} {w : World} {A : Around} {E : Value → Shared → Prop} {s : Shared}
theorem strs_get : ∀ {us : List Value} {xs : List Str}, StrsAre us xs → ∀ (i : Nat) (v : Value), us[i]? = some v → ∃ x t, xs[i]? = some x ∧ v = .str x t
  | _, _, .nil, i, v, h => by simp at h
  | _, _, .cons n t hr, 0, v, h => by simp at h; exact ⟨n, t, rfl, h.symm⟩
  | _, _, .cons n t hr, i + 1, v, h => by
    simp only [List.getElem?_cons_succ] at h ⊢
    exact strs_get hr i v h
/-- set(xs) -/
theorem setS_list {l : Addr} {items : Array Value} {xs : List Str} {Q : Value → Shared → Prop}
    (hh : A.handled = none) (hl : s.heap.IsList l items) (hi : PyProof.Rows.StrsAre items.toList xs) (hb : items.size + 1 < scanBound)
    (h : ∀ (h' : Heap) (tk n : Nat), n ≤ xs.length → SetS w h' s.heap.objs.size (mem1 xs) n →
      (∀ b o, b < s.heap.objs.size → s.heap.get? b = some o → h'.get? b = some o) → Q (.ref s.heap.objs.size) { s with heap := h', toks := tk }) :
    wpAny (model prog w) A (call (.type "set") [.ref l]) Q E s := by
  obtain ⟨c, tl, hmro⟩ := PySem.F.called_set.mro
  have hmade := PySem.F.called_set.made
  have hsub := PySem.F.called_set.sub
  refine wpAny_call (codeAny_of_tree ?_)
  show wpAny _ _ (callAny (.type "set") _) _ _ _
  refine wpAny_pure ⟨Code.quiet_builtin _ (by decide +kernel), codeAny_builtin PySem.F.entry_type_call ?_⟩
  rw [Around.under_plain (weight_type_call_type "set" [.ref l] []) rfl]
  have h1 := PySem.F.called_set.notType
  have h2 := PySem.F.called_set.canCreate
  have hct := PySem.F.typeCall_set_1 (.ref l)
  repeat (any_goals (first | assumption | wp_step))
  refine codeAny_mono (code_set_led1 (.ref l) (E := E) (Q₁ := fun obj s₁ => obj = .ref s.heap.objs.size ∧ s₁ = { s with heap := s.heap.push { cls := .type "set", dict := none, data := .set #[] 0 (.fresh 0 0 (!w.params.followText "set-order")) } }) ⟨rfl, rfl⟩) fun r s₁ hr => ?_
  cases r with
  | error e => exact hr
  | ok fl =>
    cases fl with
    | ret obj =>
      obtain ⟨rfl, rfl⟩ := hr
      generalize hled : (!w.params.followText "set-order") = led
      have hS : (s.heap.push { cls := .type "set", dict := none, data := .set #[] 0 (.fresh 0 0 led) }).get? s.heap.objs.size = some { cls := .type "set", dict := none, data := .set #[] 0 (.fresh 0 0 led) } := Heap.get?_push_size _ rfl
      have hT : Shared.TypeIs { s with heap := s.heap.push { cls := .type "set", dict := none, data := .set #[] 0 (.fresh 0 0 led) } } (.ref s.heap.objs.size) "set" := ⟨_, hS, rfl⟩
      have hli := PySem.F.called_set.init.lookup
      have hbi := PySem.F.called_set.init.bind (.ref s.heap.objs.size)
      repeat (any_goals (first | assumption | wp_step))
      refine codeAny_mono (codeAny_call_builtin (R := wants (fun r s₂ => r = .none ∧ ∃ h' tk, s₂ = { s with heap := h', toks := tk } ∧
          (∃ m, m ≤ items.size ∧ SetS w h' s.heap.objs.size (mem1 xs) m) ∧
          (∀ b o, b < s.heap.objs.size → s.heap.get? b = some o → h'.get? b = some o)) E) PySem.F.called_set.init.plain PySem.F.entry_set_init (check_set_init_1 hT ?_)) fun r₂ s₂ hr₂ => ?_
      · obtain ⟨ol, hol, hcl, nl, hdl⟩ := hl
        obtain ⟨ocls, odict, odata, oslots⟩ := ol
        simp only at hcl hdl
        subst hcl; subst hdl
        have hol' : (s.heap.push { cls := .type "set", dict := none, data := .set #[] 0 (.fresh 0 0 led) }).get? l = some { cls := .type "list", dict := odict, data := .seq items nl, slots := oslots } := Heap.get?_push_of_some _ hol
        have hsls := PySem.F.sub_list_set
        have hslf := PySem.F.sub_list_frozenset
        have hne : (Value.type "list" == Value.type "dict") = false := by decide
        have hl1 : (s.heap.push { cls := .type "set", dict := none, data := .set #[] 0 (.fresh 0 0 led) }).IsList l items := ⟨_, hol', rfl, nl, rfl⟩
        unfold Builtin.«set.__init__» noKeywords Builtin.Frozenset.updateFrom
        generalize hPI : pyIter = PI
        wp_walk
        subst hPI
        refine wpAny_pyIter_list hl1 ?_
        refine wpAny_bind (wpAny_runValue ?_)
        have hlS : l < s.heap.objs.size := Heap.lt_size hol
        have hh3 : A.in1.in1.in1.handled = none := by simp [hh]
        have hneI : l ≠ (s.heap.push { cls := .type "set", dict := none, data := .set #[] 0 (.fresh 0 0 led) }).objs.size := by
          rw [Heap.size_push]; exact Nat.ne_of_lt (Nat.lt_succ_of_lt hlS)
        have hSf : s.heap.objs.size ∉ [(s.heap.push { cls := .type "set", dict := none, data := .set #[] 0 (.fresh 0 0 led) }).objs.size, l] := by
          rw [Heap.size_push]; simp only [List.mem_cons, List.mem_singleton, List.not_mem_nil, or_false, not_or]
          exact ⟨Nat.ne_of_lt (Nat.lt_succ_self _), Nat.ne_of_gt hlS⟩
        have hsz : xs.length = items.size := by rw [← StrsAre.len_eq hi, Array.length_toList]
        have hval : ∀ (i : Nat) (v : Value), items[i]? = some v → ∃ x t, xs[i]? = some x ∧ v = .str x t := fun i v hv => strs_get hi i v (by rw [Array.getElem?_toList]; exact hv)
        refine setS_loop ((Walks.list hh3 _ l hneI items).toS) s.heap.objs.size
          hSf xs hsz hb hval (items.size - 0) 0 _ (by omega) (Nat.zero_le _)
          ⟨⟨_, Heap.get?_push_size _ rfl, rfl, rfl⟩, (hl1.push _)⟩ ?hS0 ?hR
        case hS0 =>
          have hget : ((s.heap.push { cls := .type "set", dict := none, data := .set #[] 0 (.fresh 0 0 led) }).push { cls := .type "list_iterator", data := .fields #[.ref l, .int 0 0] }).get? s.heap.objs.size
              = some { cls := .type "set", dict := none, data := .set #[] 0 (.fresh 0 0 led) } := Heap.get?_push_of_some _ hS
          subst hled
          exact ⟨0, Nat.le_refl _, (setS_fresh w (dd := default) hget).congr fun k => by simp [mem1]⟩
        case hR =>
          intro s' hm hS'
          obtain ⟨h', g', d', tk', os'⟩ := s'
          have eg : g' = s.gens := hm.gens
          have ed : d' = s.drawn := hm.drawn
          have eo : os' = s.os := hm.os
          subst eg; subst ed; subst eo
          show wpAny _ _ _ _ _ _
          refine wpAny_pure ?_
          show wpAny _ _ (ret Value.none) _ _ _
          refine wpAny_pure ⟨rfl, h', tk', rfl, hS', fun b o hb e => ?_⟩
          have hb1 : b ≠ s.heap.objs.size := Nat.ne_of_lt hb
          have hb2 : b ≠ (s.heap.push { cls := .type "set", dict := none, data := .set #[] 0 (.fresh 0 0 led) }).objs.size := by
            rw [Heap.size_push]; exact Nat.ne_of_lt (Nat.lt_succ_of_lt hb)
          exact hm.heap b o (by simp only [List.mem_cons, List.mem_singleton, List.not_mem_nil, or_false, not_or]; exact ⟨hb1, hb2⟩) (Heap.get?_push_of_some _ (Heap.get?_push_of_some _ e))
      · cases r₂ with
        | error e => exact hr₂
        | ok fl₂ =>
          cases fl₂ with
          | ret r =>
            obtain ⟨rfl, h', tk, rfl, ⟨m, hm1, hS'⟩, hk'⟩ := hr₂
            repeat (any_goals (first | assumption | wp_step))
            exact h _ _ m (by rw [← StrsAre.len_eq hi, Array.length_toList]; exact hm1) hS' hk'
          | _ => exact hr₂.elim
    | _ => exact hr.elim
/-- texts of values -/
def strV : Value → Str | .str k _ => k | _ => Str.empty
theorem strs_vals : ∀ (l : List Value), (∀ v ∈ l, ∃ k tk, v = Value.str k tk) → StrsAre l (l.map strV)
  | [], _ => .nil
  | v :: l, h => by
    obtain ⟨k, tk, rfl⟩ := h v List.mem_cons_self
    exact .cons k tk (strs_vals l fun u hu => h u (List.mem_cons_of_mem _ hu))
/-- sorted(s) -/
theorem sorted_setS {a : Addr} {S : Str → Bool} {n : Nat} {Q : Value → Shared → Prop} (R : SetS w s.heap a S n) (hh : A.handled = none) (h64 : n < 64)
    (hQ : ∀ s' p (out : Array Value) (c : Nat) (ys : List Str), (∀ b o, s.heap.get? b = some o → s'.heap.get? b = some o) → s'.gens = s.gens → s'.os = s.os → s.heap.objs.size ≤ p →
      s'.heap.get? p = some (seqObj "list" out c) → StrsAre out.toList ys → sortedS ys = true → ys.Nodup → (∀ k, k ∈ ys ↔ S k = true) → ys.length = n → Q (.ref p) s') :
    wpAny (model prog w) A (call (.builtin "sorted") [.ref a]) Q E s := by
  obtain ⟨o, es, ep, t, ho, hex, hd, g, nd, hm, hb, hf, hn, hr, hl⟩ := R
  refine Calls.call_function_entry kind_sorted plain_sorted entry_sorted (args_sorted1 _) ?_
  unfold Builtin.«sorted»
  refine wpAny_bind (m := checkCount "sorted" 1 1 _) (wpAny_pure ?_)
  refine wpAny_bind (collect_set (A := A.in1) hh ⟨o, ho, hex.1, hd⟩ hf hb hr hl fun s1 vs k1 hz g1 o1 pm => ?_)
  have hvl : vs.length = n := by rw [pm.length_eq, List.length_map, Array.length_toList]; exact hn
  have hI : StrsAre vs (vs.map strV) := strs_vals vs fun v hv => by
    obtain ⟨e, he, q⟩ := List.mem_map.mp (pm.mem_iff.mp hv)
    obtain ⟨k, tk, h1, _⟩ := g e he
    exact ⟨k, tk, by rw [← q]; exact h1⟩
  have pk : (vs.map strV).Perm (es.toList.map keyS) := by
    have q := pm.map strV
    rw [List.map_map] at q
    exact q
  refine wpAny_bind (wpAny_newList ?_ (by rw [hvl, sizeLine_eq]; omega))
  have hoL : (s1.heap.push (seqObj "list" vs.toArray 0)).get? s1.heap.objs.size = some (seqObj "list" vs.toArray 0) := Heap.get?_push_size _ rfl
  refine wpAny_bind (wpAny_holding (wpAny_call_entry slot_list_sort ⟨_, hoL, rfl⟩ entry_list_sort (list_sort_treeK strKind_oneLt hoL hI.keysOf (fun v₁ v₂ rest e => keyKind_strs (by rw [← e]; exact hI)) (by rw [hvl]; exact h64) fun st' hp hs => ⟨_, rfl, ?_⟩) (args_list_sort _)))
  obtain ⟨ys, a1, a2, a3⟩ := sorted_out_str hI hp hs
  generalize ((arrOf st').map (·.2)) = out at a1 ⊢
  obtain ⟨c, hc⟩ := sortedHeap_at (vs := vs) (out := out) hoL
  have pn : ys.Perm (es.toList.map keyS) := a2.trans pk
  refine wpAny_pure ⟨_, rfl, hQ _ s1.heap.objs.size out c ys (fun b u e => ?_) g1 o1 hz hc a1 a3 (pn.nodup_iff.mpr nd) (fun k => by rw [pn.mem_iff, ← hm k]) ?_⟩
  · have q := k1 b u e
    have hlt := Heap.lt_size q
    show (sortedHeap (s1.heap.push (seqObj "list" vs.toArray 0)) s1.heap.objs.size vs out).get? b = some u
    rw [sortedHeap_old (Nat.ne_of_lt hlt) (by rw [size_push']; exact Nat.lt_succ_of_lt hlt)]
    exact Heap.get?_push_of_some _ q
  · rw [pn.length_eq, List.length_map, Array.length_toList]; exact hn
end
/-- the set of texts at a, as an object -/
def SetSO (w : World) (a : Addr) (S : Str → Bool) (n : Nat) : HO := .ext fun h => SetS w h a S n
section
variable {X : Cx}
theorem setS_new {w : World} {P : Program} {H : Hp} {h : Heap} {a : Addr} {S : Str → Bool} {n : Nat} (R : SetS w h a S n) : ObjOk P w H h a (SetSO w a S n) := by
  have ⟨o, _, _, _, ho, _⟩ := R
  exact ⟨R, ⟨o, ho⟩, fun h1 h2 p k => SetS.at p k⟩
theorem setS_get {pins : List (Addr × Obj)} {σ : L2.St} {H : Hp} {s : Shared} {a : Addr} {S : Str → Bool} {n : Nat} (I : Inv X pins σ H s) (ha : H a = some (SetSO X.w a S n)) : SetS X.w s.heap a S n := (I.hok a _ ha).1
def rSetS (K : PySem.W.Frag) (w : World) : List V → Hp → VK → Prop := fun vs H Q => ∃ (a : Addr) (xs : List Str), vs = [V.ref a] ∧ SqL K H a (xs.map V.str) ∧ xs.length < 4000 ∧ ∀ p n, n ≤ xs.length → H p = none → Q (.ref p) (upd H p (SetSO w p (mem1 xs) n))
theorem cr_setS (hc : X.calm = true) : CallR X (.type "set") (rSetS X.K X.w) := by
  intro pins s σ H vs us Q I r h
  obtain ⟨a, xs, rfl, hs, hl, q⟩ := h
  obtain ⟨its, rv, hL, _⟩ := I.list hs
  rw [Vals.ref1 r]
  have hlen := rv.length
  rw [List.length_map] at hlen
  refine setS_list (I.ok.hd hc) hL.isList (by simpa using rv.strs) (by simp only [List.size_toArray]; unfold scanBound; omega) fun h' tk n hn hS hk => ?_
  have J := I.laid (t' := tk) (H := H) (h' := h') (a := s.heap.objs.size) (fun b u e => hk b u (Heap.lt_size e) e) (Nat.le_refl _) (setS_new (P := X.prog) hS)
  exact ⟨.ref _, upd H s.heap.objs.size (SetSO X.w s.heap.objs.size (mem1 xs) n), J, rfl, q _ n hn (I.hok.fresh (Nat.le_refl _))⟩
def rSortSet (w : World) : List V → Hp → VK → Prop := fun vs H Q => ∃ (a : Addr) (S : Str → Bool) (n : Nat), vs = [V.ref a] ∧ H a = some (SetSO w a S n) ∧ (∃ zs : List Str, zs.Nodup ∧ zs.length < 64 ∧ ∀ k, S k = true ↔ k ∈ zs) ∧
  ∀ (ys : List Str) (p : Addr), sortedS ys = true → ys.Nodup → (∀ k, k ∈ ys ↔ S k = true) → H p = none → Q (.ref p) (upd H p (.lst (ys.map V.str)))
theorem cr_sortSet (hc : X.calm = true) : CallR X (.builtin "sorted") (rSortSet X.w) := by
  intro pins s σ H vs us Q I r h
  obtain ⟨a, S, n, rfl, ha, ⟨zs, z1, z2, z3⟩, q⟩ := h
  have R := setS_get I ha
  have h64 : n < 64 := by
    obtain ⟨o, es, ep, t, _, _, _, _, nd, hm, _, _, hn, _⟩ := R
    have pm : (es.toList.map keyS).Perm zs := (List.perm_ext_iff_of_nodup nd z1).mpr fun k => (hm k).symm.trans (z3 k)
    have e := pm.length_eq
    rw [List.length_map, Array.length_toList, hn] at e
    omega
  rw [Vals.ref1 r]
  refine sorted_setS R (I.ok.hd hc) h64 fun s' p out c ys k g o hp hg hi hs hnd hm hl => ?_
  have hlen : (ys.map V.str).length ≤ sizeLine := by rw [List.length_map, hl, sizeLine_eq]; omega
  have hn : H p = none := I.hok.fresh hp
  have J : Inv X pins σ (upd H p (.lst (ys.map V.str))) { s with heap := s'.heap, gens := s'.gens, drawn := s'.drawn, toks := s'.toks } :=
    I.call (ch := []) (Un.laid k hp hn) (I.hok.laid k hp ⟨hlen, out.toList, c, vals_of_strs hi, hg⟩) (by rw [g]; exact I.bare) (fun _ z => nomatch z)
  have e : s' = { s with heap := s'.heap, gens := s'.gens, drawn := s'.drawn, toks := s'.toks } := by
    cases s'
    cases s
    cases o
    rfl
  rw [e]
  exact ⟨.ref p, _, J, rfl, q ys p hs hnd hm hn⟩
end
end Pv

set_option Elab.async false
set_option linter.all false
set_option autoImplicit false
set_option maxRecDepth 100000
/-! PvB: how trees stand in the heap. -/
namespace Pv
open PySem PySem.Spec PyProof.Rows L2

/-- what is fixed through the law -/
structure Wl where
  prog : Program
  w : World
  K : PySem.W.Frag
  C : Nat → Addr
  nm : Nat → Str

/-- an exception's object -/
def ExT (cls : Value) (d : Option Addr) (a : Addr) : HO := .ext fun h => ∃ (oe : Obj) (vs : Array Value), h.get? a = some oe ∧ Zc cls d oe ∧ oe.data = .fields vs
/-- plain values -/
inductive RelA : D → V → Prop
  | int (i : Int) : RelA (.int i) (.int i)
  | str (x : Str) : RelA (.str x) (.str x)
/-- a dict of the top, its keys texts -/
def KDic (W : Wl) (a : Addr) (kvs : List (Key × D)) : Prop := ∃ es n, KDict W.K W.w a es n ∧ ∀ z : Str, (kvs.lookup (.inr z) = none → PySem.W.nsIn W.K a z = some none) ∧
  ∀ d, kvs.lookup (.inr z) = some d → ∃ u v, PySem.W.nsIn W.K a z = some (some u) ∧ RelV v u ∧ RelA d v
mutual
/-- F: what stands for good; R: the addresses of the numbers -/
inductive Rel (W : Wl) (F : Hp) (R : List Addr) : D → V → Prop
  | non : Rel W F R .non .non
  | bl (b : Bool) : Rel W F R (.bl b) (.bl b)
  | int (i : Int) : Rel W F R (.int i) (.int i)
  | str (x : Str) : Rel W F R (.str x) (.str x)
  | ty (n : String) : Rel W F R (.ty n) (.ty n)
  | tup {a : Addr} {xs : List D} {vs : List V} : SqT W.K F a vs → Rels W F R xs vs → Rel W F R (.tup xs) (.ref a)
  | lst {a : Addr} {xs : List D} {vs : List V} : F a = some (.lst vs) → Rels W F R xs vs → Rel W F R (.lst xs) (.ref a)
  | ins {a dx : Addr} {c : Nat} {fs : List (Nat × D)} {gs : List (Str × V)} : F a = some (.ins (W.C c) dx gs) → RelF W F R fs gs → Rel W F R (.ins c fs) (.ref a)
  | cls (c : Nat) : Rel W F R (.cls c) (.ref (W.C c))
  | scr {a : Addr} {ns : List Int} : SqL W.K F a (ns.map V.int) → Rel W F R (.scr ns) (.ref a)
  | sets {a : Addr} {ys : List Str} {S : Str → Bool} {n : Nat} : F a = some (SetSO W.w a S n) → ys.Nodup → (∀ k, S k = true ↔ k ∈ ys) → Rel W F R (.set (ys.map .str)) (.ref a)
  | kdic {a : Addr} {kvs : List (Key × D)} : KDic W a kvs → Rel W F R (.dic kvs) (.ref a)
  | dk {a : Addr} : F a = some (.dK []) → Rel W F R (.dic []) (.ref a)
  | exc {a dx : Addr} {c : Nat} {fs : List (Nat × D)} {gs : List (Str × V)} : F a = some (ExT (.ref (W.C c)) (some dx) a) → F dx = some (.xd gs) → RelF W F R fs gs → Rel W F R (.exc c fs) (.ref a)
  | loc {i : Nat} {a : Addr} : R[i]? = some a → Rel W F R (.loc i) (.ref a)
inductive Rels (W : Wl) (F : Hp) (R : List Addr) : List D → List V → Prop
  | nil : Rels W F R [] []
  | cons {x : D} {v : V} {xs : List D} {vs : List V} : Rel W F R x v → Rels W F R xs vs → Rels W F R (x :: xs) (v :: vs)
inductive RelF (W : Wl) (F : Hp) (R : List Addr) : List (Nat × D) → List (Str × V) → Prop
  | nil : RelF W F R [] []
  | cons {f : Nat} {x : D} {v : V} {xs : List (Nat × D)} {vs : List (Str × V)} : Rel W F R x v → RelF W F R xs vs → RelF W F R ((f, x) :: xs) ((W.nm f, v) :: vs)
end
/-- what changes, as it stands -/
inductive RelO (W : Wl) (F : Hp) (R : List Addr) : D → HO → Prop
  | lst {xs : List D} {vs : List V} : Rels W F R xs vs → RelO W F R (.lst xs) (.lst vs)
  | ins {c : Nat} {dx : Addr} {fs : List (Nat × D)} {gs : List (Str × V)} : RelF W F R fs gs → RelO W F R (.ins c fs) (.ins (W.C c) dx gs)

/-! ### more stands -/
structure Le (F : Hp) (R : List Addr) (F' : Hp) (R' : List Addr) : Prop where
  ex : ∀ a o, F a = some o → F' a = some o
  re : ∃ r, R' = R ++ r
section
variable {W : Wl} {Z F F' F2 : Hp} {R R' R2 : List Addr}
theorem Le.refl : Le F R F R := ⟨fun _ _ h => h, [], (List.append_nil R).symm⟩
theorem Le.trans (a : Le F R F' R') (b : Le F' R' F2 R2) : Le F R F2 R2 :=
  ⟨fun x o h => b.ex x o (a.ex x o h), let ⟨r, e⟩ := a.re; let ⟨q, e'⟩ := b.re; ⟨r ++ q, by rw [e', e, List.append_assoc]⟩⟩
theorem Le.at (l : Le F R F' R') {i : Nat} {a : Addr} (h : R[i]? = some a) : R'[i]? = some a := by
  obtain ⟨r, rfl⟩ := l.re
  rw [List.getElem?_append_left (List.getElem?_eq_some_iff.mp h).1]
  exact h
theorem sqT_mono (l : ∀ a o, F a = some o → F' a = some o) {K : PySem.W.Frag} {a : Addr} {xs : List V} (h : SqT K F a xs) : SqT K F' a xs := by
  rcases h with (h | ⟨o, h⟩) | h
  · exact .inl (.inl (l _ _ h))
  · exact .inl (.inr ⟨o, l _ _ h⟩)
  · exact .inr h
theorem sqL_mono (l : ∀ a o, F a = some o → F' a = some o) {K : PySem.W.Frag} {a : Addr} {xs : List V} (h : SqL K F a xs) : SqL K F' a xs := by
  rcases h with (h | ⟨o, h⟩) | h
  · exact .inl (.inl (l _ _ h))
  · exact .inl (.inr ⟨o, l _ _ h⟩)
  · exact .inr h
mutual
theorem Rel.mono (l : Le F R F' R') : ∀ {d : D} {v : V}, Rel W F R d v → Rel W F' R' d v
  | _, _, .non => .non
  | _, _, .bl b => .bl b
  | _, _, .int i => .int i
  | _, _, .str x => .str x
  | _, _, .ty n => .ty n
  | _, _, .tup h r => .tup (sqT_mono l.ex h) (r.mono l)
  | _, _, .lst h r => .lst (l.ex _ _ h) (r.mono l)
  | _, _, .ins h r => .ins (l.ex _ _ h) (r.mono l)
  | _, _, .cls c => .cls c
  | _, _, .scr h => .scr (sqL_mono l.ex h)
  | _, _, .sets h a b => .sets (l.ex _ _ h) a b
  | _, _, .kdic h => .kdic h
  | _, _, .dk h => .dk (l.ex _ _ h)
  | _, _, .exc h g r => .exc (l.ex _ _ h) (l.ex _ _ g) (r.mono l)
  | _, _, .loc h => .loc (l.at h)
theorem Rels.mono (l : Le F R F' R') : ∀ {ds : List D} {vs : List V}, Rels W F R ds vs → Rels W F' R' ds vs
  | _, _, .nil => .nil
  | _, _, .cons a b => .cons (a.mono l) (b.mono l)
theorem RelF.mono (l : Le F R F' R') : ∀ {ds : List (Nat × D)} {vs : List (Str × V)}, RelF W F R ds vs → RelF W F' R' ds vs
  | _, _, .nil => .nil
  | _, _, .cons a b => .cons (a.mono l) (b.mono l)
end
theorem RelO.mono (l : Le F R F' R') {d : D} {o : HO} (h : RelO W F R d o) : RelO W F' R' d o := by
  cases h with
  | lst r => exact .lst (r.mono l)
  | ins r => exact .ins (r.mono l)
theorem Rels.length : ∀ {ds : List D} {vs : List V}, Rels W F R ds vs → ds.length = vs.length
  | _, _, .nil => rfl
  | _, _, .cons _ b => by rw [List.length_cons, List.length_cons, b.length]
theorem Rels.get : ∀ {ds : List D} {vs : List V} {i : Nat} {d : D}, Rels W F R ds vs → ds[i]? = some d → ∃ v, vs[i]? = some v ∧ Rel W F R d v
  | _, _, _, _, .nil, e => by simp at e
  | _, _, 0, _, .cons a _, e => by simp at e; subst e; exact ⟨_, rfl, a⟩
  | _, _, i + 1, d, .cons _ b, e => by
    obtain ⟨v, h1, h2⟩ := b.get (i := i) (d := d) (by simpa using e)
    exact ⟨v, by simpa using h1, h2⟩
theorem Rels.append : ∀ {ds es : List D} {vs us : List V}, Rels W F R ds vs → Rels W F R es us → Rels W F R (ds ++ es) (vs ++ us)
  | _, _, _, _, .nil, s => s
  | _, _, _, _, .cons a b, s => .cons a (b.append s)
theorem Rels.take : ∀ {ds : List D} {vs : List V} (n : Nat), Rels W F R ds vs → Rels W F R (ds.take n) (vs.take n)
  | _, _, 0, _ => .nil
  | _, _, _ + 1, .nil => .nil
  | _, _, n + 1, .cons a b => .cons a (b.take n)
theorem Rels.drop : ∀ {ds : List D} {vs : List V} (n : Nat), Rels W F R ds vs → Rels W F R (ds.drop n) (vs.drop n)
  | _, _, 0, r => r
  | _, _, _ + 1, .nil => .nil
  | _, _, n + 1, .cons _ b => b.drop n
theorem Rels.set {d : D} {v : V} (q : Rel W F R d v) : ∀ {ds : List D} {vs : List V} (i : Nat), Rels W F R ds vs → Rels W F R (ds.set i d) (vs.set i v)
  | _, _, _, .nil => .nil
  | _, _, 0, .cons _ b => .cons q b
  | _, _, i + 1, .cons a b => .cons a (b.set q i)
theorem Rels.reverse : ∀ {ds : List D} {vs : List V}, Rels W F R ds vs → Rels W F R ds.reverse vs.reverse
  | _, _, .nil => .nil
  | _, _, .cons a b => by
    rw [List.reverse_cons, List.reverse_cons]
    exact b.reverse.append (.cons a .nil)
theorem Rels.dropLast : ∀ {ds : List D} {vs : List V}, Rels W F R ds vs → Rels W F R ds.dropLast vs.dropLast := fun {ds vs} r => by
  rw [List.dropLast_eq_take, List.dropLast_eq_take, r.length]
  exact r.take _
theorem Rels.flat (n : Nat) {ds : List D} {vs : List V} (r : Rels W F R ds vs) : Rels W F R (List.replicate n ds).flatten (List.replicate n vs).flatten := by
  induction n with
  | zero => exact .nil
  | succ n ih => rw [List.replicate_succ, List.replicate_succ, List.flatten_cons, List.flatten_cons]; exact r.append ih

/-! ### the state -/
/-- F is in the heap; the numbers stand apart, as the store tells; Z: what stands for others -/
structure SR (W : Wl) (Z : Hp) (F : Hp) (R : List Addr) (m : Mu) (H : Hp) : Prop where
  ex : ∀ a o, F a = some o → H a = some o
  len : R.length = m.length
  nd : R.Nodup
  off : ∀ (i : Nat) (a : Addr), R[i]? = some a → F a = none ∧ H a ≠ none
  at_ : ∀ (i : Nat) (a : Addr) (o : D), R[i]? = some a → m[i]? = some (some o) → ∃ u, H a = some u ∧ RelO W F R o u
  gh : ∀ a o, Z a = some o → H a = some o ∧ F a = none ∧ a ∉ R
/-- the slots, as far as they are known -/
structure RS' (W : Wl) (F : Hp) (R : List Addr) (s : Sl) (σ : L2.St) : Prop where
  len : s.length ≤ σ.length
  get : ∀ (i : Nat) (d : D), s[i]? = some (some d) → ∃ v, σ[i]? = some (some v) ∧ Rel W F R d v
theorem RS'.mono (l : Le F R F' R') {s : Sl} {σ : L2.St} (h : RS' W F R s σ) : RS' W F' R' s σ := ⟨h.len, fun i d e => let ⟨v, a, b⟩ := h.get i d e; ⟨v, a, b.mono l⟩⟩
theorem RS'.set {s : Sl} {σ : L2.St} (h : RS' W F R s σ) {i : Nat} {d : D} {v : V} (r : Rel W F R d v) : RS' W F R (s.set i (some d)) (σ.set i (some v)) := ⟨by simpa using h.len, fun j e hj => by
  by_cases q : i = j
  · subst q
    by_cases hs : i < s.length
    · rw [List.getElem?_set_self hs] at hj
      cases hj
      exact ⟨v, by rw [List.getElem?_set_self (Nat.lt_of_lt_of_le hs h.len)], r⟩
    · rw [List.getElem?_eq_none (by simpa using hs)] at hj
      cases hj
  · rw [List.getElem?_set_ne q] at hj
    rw [List.getElem?_set_ne q]
    exact h.get j e hj⟩
theorem RS'.set0 {s : Sl} {σ : L2.St} (h : RS' W F R s σ) {i : Nat} {o : Option V} : RS' W F R (s.set i none) (σ.set i o) := ⟨by simpa using h.len, fun j e hj => by
  by_cases q : i = j
  · subst q
    by_cases hs : i < s.length
    · rw [List.getElem?_set_self hs] at hj
      cases hj
    · rw [List.getElem?_eq_none (by simpa using hs)] at hj
      cases hj
  · rw [List.getElem?_set_ne q] at hj
    rw [List.getElem?_set_ne q]
    exact h.get j e hj⟩
theorem RS'.wipe {s : Sl} {σ : L2.St} (h : RS' W F R s σ) : ∀ vs : List Nat, RS' W F R (wipeA s vs) (L2.wipe σ vs)
  | [] => h
  | _ :: vs => (RS'.wipe h vs).set0
/-- a new thing that stands for good -/
theorem SR.new {m : Mu} {H : Hp} (s : SR W Z F R m H) {p : Addr} {o : HO} (hp : H p = none) : SR W Z (upd F p o) R m (upd H p o) ∧ Le F R (upd F p o) R := by
  have fp : F p = none := by
    cases e : F p with
    | none => rfl
    | some u => rw [s.ex p u e] at hp; cases hp
  have l : Le F R (upd F p o) R := ⟨fun a u h => by rw [upd_ne (ne_of_none h fp)]; exact h, [], (List.append_nil R).symm⟩
  refine ⟨⟨fun a u h => ?_, s.len, s.nd, fun i a h => ?_, fun i a d h e => ?_, fun a u h => ?_⟩, l⟩
  · by_cases q : a = p
    · subst q; rw [upd_same] at h ⊢; exact h
    · rw [upd_ne q] at h ⊢; exact s.ex a u h
  · obtain ⟨h1, h2⟩ := s.off i a h
    have q : a ≠ p := fun e => h2 (by rw [e]; exact hp)
    rw [upd_ne q, upd_ne q]
    exact ⟨h1, h2⟩
  · obtain ⟨u, h1, h2⟩ := s.at_ i a d h e
    exact ⟨u, by rw [upd_ne (ne_of_none h1 hp)]; exact h1, h2.mono l⟩
  · obtain ⟨h1, h2, h3⟩ := s.gh a u h
    have q := ne_of_none h1 hp
    rw [upd_ne q, upd_ne q]
    exact ⟨h1, h2, h3⟩
/-- a new thing with a number -/
theorem SR.num {m : Mu} {H : Hp} (s : SR W Z F R m H) {p : Addr} {o : HO} {d : D} (hp : H p = none) (r : RelO W F R d o) :
    SR W Z F (R ++ [p]) (m ++ [some d]) (upd H p o) ∧ Le F R F (R ++ [p]) ∧ (R ++ [p])[m.length]? = some p := by
  have fp : F p = none := by
    cases e : F p with
    | none => rfl
    | some u => rw [s.ex p u e] at hp; cases hp
  have l : Le F R F (R ++ [p]) := ⟨fun _ _ h => h, [p], rfl⟩
  have np : p ∉ R := fun h => by
    obtain ⟨i, hi⟩ := List.getElem?_of_mem h
    exact (s.off i p hi).2 hp
  have atp : (R ++ [p])[m.length]? = some p := by rw [← s.len]; simp
  refine ⟨⟨fun a u h => by rw [upd_ne (ne_of_none h fp)]; exact s.ex a u h, by simp [s.len], ?_, fun i a h => ?_, fun i a e h q => ?_, fun a u h => ?_⟩, l, atp⟩
  · rw [List.nodup_append]
    exact ⟨s.nd, by simp, fun a ha b hb => by simp at hb; subst hb; exact fun e => np (e ▸ ha)⟩
  · by_cases hi : i < R.length
    · rw [List.getElem?_append_left hi] at h
      obtain ⟨h1, h2⟩ := s.off i a h
      have q : a ≠ p := fun e => h2 (by rw [e]; exact hp)
      exact ⟨h1, by rw [upd_ne q]; exact h2⟩
    · have hi' : i = R.length := by
        have := (List.getElem?_eq_some_iff.mp h).1
        simp at this; omega
      subst hi'
      simp at h
      subst h
      exact ⟨fp, by rw [upd_same]; simp⟩
  · by_cases hi : i < R.length
    · rw [List.getElem?_append_left hi] at h
      rw [List.getElem?_append_left (by rw [← s.len]; exact hi)] at q
      obtain ⟨u, h1, h2⟩ := s.at_ i a e h q
      exact ⟨u, by rw [upd_ne (ne_of_none h1 hp)]; exact h1, h2.mono l⟩
    · have hi' : i = R.length := by
        have := (List.getElem?_eq_some_iff.mp h).1
        simp at this; omega
      subst hi'
      simp at h
      subst h
      rw [s.len] at q
      simp at q
      subst q
      exact ⟨o, upd_same, r.mono l⟩
  · obtain ⟨h1, h2, h3⟩ := s.gh a u h
    have q := ne_of_none h1 hp
    rw [upd_ne q]
    exact ⟨h1, h2, by simp only [List.mem_append, List.mem_singleton, not_or]; exact ⟨h3, q⟩⟩
/-- what a number holds is changed -/
theorem SR.put {m : Mu} {H : Hp} (s : SR W Z F R m H) {i : Nat} {a : Addr} {o : HO} {d : D} (hi : R[i]? = some a) (r : RelO W F R d o) : SR W Z F R (setM m i d) (upd H a o) := by
  have il : i < R.length := (List.getElem?_eq_some_iff.mp hi).1
  have inj : ∀ (j : Nat) (b : Addr), R[j]? = some b → b = a → j = i := fun j b hj e => by
    subst e
    obtain ⟨h1, e1⟩ := List.getElem?_eq_some_iff.mp hj
    obtain ⟨h2, e2⟩ := List.getElem?_eq_some_iff.mp hi
    exact (List.getElem_inj s.nd).mp (e1.trans e2.symm)
  refine ⟨fun b u h => ?_, by unfold setM; simp [s.len], s.nd, fun j b h => ?_, fun j b e h q => ?_, fun b u h => ?_⟩
  · have ne : b ≠ a := fun e => by rw [e, (s.off i a hi).1] at h; cases h
    rw [upd_ne ne]; exact s.ex b u h
  · refine ⟨(s.off j b h).1, ?_⟩
    by_cases e : b = a
    · rw [e, upd_same]; simp
    · rw [upd_ne e]; exact (s.off j b h).2
  · unfold setM at q
    by_cases ij : i = j
    · subst ij
      rw [hi] at h
      cases h
      rw [List.getElem?_set_self (by rw [← s.len]; exact il)] at q
      cases q
      exact ⟨o, upd_same, r⟩
    · rw [List.getElem?_set_ne ij] at q
      obtain ⟨u, h1, h2⟩ := s.at_ j b e h q
      exact ⟨u, by rw [upd_ne (fun z => ij (inj j b h z).symm)]; exact h1, h2⟩
  · obtain ⟨h1, h2, h3⟩ := s.gh b u h
    have ne : b ≠ a := fun e => h3 (by rw [e]; exact List.mem_of_getElem? hi)
    rw [upd_ne ne]
    exact ⟨h1, h2, h3⟩
/-- what others hold, as far as it is less -/
theorem SR.less {Z' : Hp} {m : Mu} {H : Hp} (s : SR W Z' F R m H) (l : ∀ a o, Z a = some o → Z' a = some o) : SR W Z F R m H := ⟨s.ex, s.len, s.nd, s.off, s.at_, fun a o h => s.gh a o (l a o h)⟩
/-- a new thing for others -/
theorem SR.ghost {m : Mu} {H : Hp} (s : SR W Z F R m H) {p : Addr} {o : HO} (hp : H p = none) : SR W (upd Z p o) F R m (upd H p o) ∧ ∀ a u, Z a = some u → upd Z p o a = some u := by
  have fp : F p = none := by
    cases e : F p with
    | none => rfl
    | some u => rw [s.ex p u e] at hp; cases hp
  have zp : ∀ a u, Z a = some u → a ≠ p := fun a u h => ne_of_none (s.gh a u h).1 hp
  refine ⟨⟨fun a u h => by rw [upd_ne (ne_of_none h fp)]; exact s.ex a u h, s.len, s.nd, fun i a h => ?_, fun i a d h e => ?_, fun a u h => ?_⟩, fun a u h => by rw [upd_ne (zp a u h)]; exact h⟩
  · obtain ⟨h1, h2⟩ := s.off i a h
    have q : a ≠ p := fun e => h2 (by rw [e]; exact hp)
    rw [upd_ne q]
    exact ⟨h1, h2⟩
  · obtain ⟨u, h1, h2⟩ := s.at_ i a d h e
    exact ⟨u, by rw [upd_ne (ne_of_none h1 hp)]; exact h1, h2⟩
  · by_cases q : a = p
    · subst q
      rw [upd_same] at h ⊢
      refine ⟨h, fp, fun e => ?_⟩
      obtain ⟨i, hi⟩ := List.getElem?_of_mem e
      exact (s.off i _ hi).2 hp
    · rw [upd_ne q] at h ⊢
      exact s.gh a u h
/-- it is written -/
theorem SR.ghostPut {m : Mu} {H : Hp} {p : Addr} {o o' : HO} (s : SR W (upd Z p o) F R m H) : SR W (upd Z p o') F R m (upd H p o') := by
  obtain ⟨h1, h2, h3⟩ := s.gh p o upd_same
  refine ⟨fun a u h => by rw [upd_ne (ne_of_none h h2)]; exact s.ex a u h, s.len, s.nd, fun i a h => ?_, fun i a d h e => ?_, fun a u h => ?_⟩
  · obtain ⟨k1, k2⟩ := s.off i a h
    refine ⟨k1, ?_⟩
    by_cases q : a = p
    · rw [q, upd_same]; simp
    · rw [upd_ne q]; exact k2
  · obtain ⟨u, k1, k2⟩ := s.at_ i a d h e
    have q : a ≠ p := fun z => h3 (by rw [← z]; exact List.mem_of_getElem? h)
    exact ⟨u, by rw [upd_ne q]; exact k1, k2⟩
  · by_cases q : a = p
    · subst q
      rw [upd_same] at h ⊢
      exact ⟨h, h2, h3⟩
    · rw [upd_ne q] at h ⊢
      exact s.gh a u (by rw [upd_ne q]; exact h)
/-- it is ours from now on: for good, or with a number -/
theorem SR.adopt {m : Mu} {H : Hp} {p : Addr} {o : HO} (zp : Z p = none) (s : SR W (upd Z p o) F R m H) : SR W Z (upd F p o) R m H ∧ Le F R (upd F p o) R := by
  obtain ⟨h1, h2, h3⟩ := s.gh p o upd_same
  have l : Le F R (upd F p o) R := ⟨fun a u h => by rw [upd_ne (ne_of_none h h2)]; exact h, [], (List.append_nil R).symm⟩
  refine ⟨⟨fun a u h => ?_, s.len, s.nd, fun i a h => ?_, fun i a d h e => ?_, fun a u h => ?_⟩, l⟩
  · by_cases q : a = p
    · subst q; rw [upd_same] at h; rw [← h]; exact h1
    · rw [upd_ne q] at h; exact s.ex a u h
  · obtain ⟨k1, k2⟩ := s.off i a h
    have q : a ≠ p := fun z => h3 (by rw [← z]; exact List.mem_of_getElem? h)
    rw [upd_ne q]
    exact ⟨k1, k2⟩
  · obtain ⟨u, k1, k2⟩ := s.at_ i a d h e
    exact ⟨u, k1, k2.mono l⟩
  · have q : a ≠ p := fun z => by rw [z, zp] at h; cases h
    rw [upd_ne q]
    exact s.gh a u (by rw [upd_ne q]; exact h)
theorem SR.adoptN {m : Mu} {H : Hp} {p : Addr} {o : HO} {d : D} (zp : Z p = none) (s : SR W (upd Z p o) F R m H) (r : RelO W F R d o) :
    SR W Z F (R ++ [p]) (m ++ [some d]) H ∧ Le F R F (R ++ [p]) ∧ (R ++ [p])[m.length]? = some p := by
  obtain ⟨h1, h2, h3⟩ := s.gh p o upd_same
  have l : Le F R F (R ++ [p]) := ⟨fun _ _ h => h, [p], rfl⟩
  have atp : (R ++ [p])[m.length]? = some p := by rw [← s.len]; simp
  refine ⟨⟨s.ex, by simp [s.len], ?_, fun i a h => ?_, fun i a e h q => ?_, fun a u h => ?_⟩, l, atp⟩
  · rw [List.nodup_append]
    exact ⟨s.nd, by simp, fun a ha b hb => by simp at hb; subst hb; exact fun e => h3 (e ▸ ha)⟩
  · by_cases hi : i < R.length
    · rw [List.getElem?_append_left hi] at h
      exact s.off i a h
    · have hi' : i = R.length := by
        have := (List.getElem?_eq_some_iff.mp h).1
        simp at this; omega
      subst hi'
      simp at h
      subst h
      exact ⟨h2, by rw [h1]; simp⟩
  · by_cases hi : i < R.length
    · rw [List.getElem?_append_left hi] at h
      rw [List.getElem?_append_left (by rw [← s.len]; exact hi)] at q
      obtain ⟨u, k1, k2⟩ := s.at_ i a e h q
      exact ⟨u, k1, k2.mono l⟩
    · have hi' : i = R.length := by
        have := (List.getElem?_eq_some_iff.mp h).1
        simp at this; omega
      subst hi'
      simp at h
      subst h
      rw [s.len] at q
      simp at q
      subst q
      exact ⟨o, h1, r.mono l⟩
  · have q : a ≠ p := fun z => by rw [z, zp] at h; cases h
    obtain ⟨k1, k2, k3⟩ := s.gh a u (by rw [upd_ne q]; exact h)
    exact ⟨k1, k2, by simp only [List.mem_append, List.mem_singleton, not_or]; exact ⟨k3, q⟩⟩
end
end Pv

set_option Elab.async false
set_option linter.all false
set_option autoImplicit false
set_option maxRecDepth 100000
set_option maxHeartbeats 1000000
/-! PvC: expressions keep what they evaluate to. -/
namespace Pv
open PySem PySem.Spec PyProof.Rows L2

/-- what a result asks of what follows -/
def EPo (W : Wl) (Z : Hp) {α β : Type} (rel : Hp → List Addr → α → β → Prop) (F : Hp) (R : List Addr) (σ : L2.St) (Q : β → Hp → Prop) (Wx : WX) : Res α → Prop
  | .ok a m => ∀ F' R' H' v, Le F R F' R' → SR W Z F' R' m H' → rel F' R' a v → Q v H'
  | .exc c fs m => ∀ F' R' H' dx gs, Le F R F' R' → SR W Z F' R' m H' → F' dx = some (.xd gs) → RelF W F' R' fs gs → Wx (.ref (W.C c)) (some dx) σ H'
  | .stuck => False
section
variable {W : Wl} {α β γ δ : Type} {rel : Hp → List Addr → α → β → Prop} {rel2 : Hp → List Addr → γ → δ → Prop} {Z F F' : Hp} {R R' : List Addr} {σ : L2.St} {Wx : WX}
theorem EPo.le {Q : β → Hp → Prop} {r : Res α} (h : EPo W Z rel F R σ Q Wx r) (l : Le F R F' R') : EPo W Z rel F' R' σ Q Wx r := by
  cases r with
  | ok a m => exact fun F2 R2 H2 v l2 => h F2 R2 H2 v (l.trans l2)
  | exc c fs m => exact fun F2 R2 H2 d g l2 => h F2 R2 H2 d g (l.trans l2)
  | stuck => exact h
/-- first r, then k -/
theorem EPo.bind {Q : δ → Hp → Prop} {r : Res α} {k : α → Mu → Res γ} (h : EPo W Z rel2 F R σ Q Wx (r.bind k)) :
    EPo W Z rel F R σ (fun v H' => ∃ a m F' R', r = .ok a m ∧ Le F R F' R' ∧ SR W Z F' R' m H' ∧ rel F' R' a v ∧ EPo W Z rel2 F' R' σ Q Wx (k a m)) Wx r := by
  cases r with
  | ok a m => exact fun F2 R2 H2 v l2 s r => ⟨a, m, F2, R2, rfl, l2, s, r, EPo.le (r := k a m) h l2⟩
  | exc c fs m => exact h
  | stuck => exact h
theorem EPo.imp {Q Q' : β → Hp → Prop} {r : Res α} (h : EPo W Z rel F R σ Q Wx r) (i : ∀ v H, Q v H → Q' v H) : EPo W Z rel F R σ Q' Wx r := by
  cases r with
  | ok a m => exact fun F2 R2 H2 v l2 s r => i _ _ (h F2 R2 H2 v l2 s r)
  | exc c fs m => exact h
  | stuck => exact h
end

/-- the program's data, at a law's entry -/
structure Gd where
  P : Pr
  C : Nat → Addr
  nm : Nat → Str
  fa : Nat → Addr
  fd : Nat → FuncData
  pn : Nat → List Str
  /-- a global's name -/
  gn : Nat → Str
  /-- a built-in's value of the module's names -/
  gv : Nat → V
abbrev Gd.W (G : Gd) (X : Cx) : Wl := ⟨X.prog, X.w, X.K, G.C, G.nm⟩
section
variable (G : Gd) (n : Nat) (X : Cx) (Wx : WX)
/-- evaluation's reading -/
def tE (a : E) : TE := fun σ H Q => ∃ Z F R s m, SR (G.W X) Z F R m H ∧ RS' (G.W X) F R s σ ∧ EPo (G.W X) Z (Rel (G.W X)) F R σ Q Wx (evE G.P (run G.P n) a s m)
def tL (as : List E) : TA := fun σ H Q => ∃ Z F R s m, SR (G.W X) Z F R m H ∧ RS' (G.W X) F R s σ ∧ EPo (G.W X) Z (Rels (G.W X)) F R σ Q Wx (evL G.P (run G.P n) as s m)
/-- a test's -/
def evTr (P : Pr) (call : Cal) (a : E) (s : Sl) (m : Mu) : Res Bool := (evE P call a s m).bind fun x m => truI P call x m
abbrev relB : Hp → List Addr → Bool → Bool → Prop := fun _ _ a b => a = b
def tT (a : E) : TT := fun σ H Q => ∃ Z F R s m, SR (G.W X) Z F R m H ∧ RS' (G.W X) F R s σ ∧ EPo (G.W X) Z relB F R σ Q Wx (evTr G.P (run G.P n) a s m)
end
section
variable {G : Gd} {n : Nat} {X : Cx} {Wx : WX} {σ : L2.St} {H : Hp} {Q : VK}
theorem tE.of {Z F : Hp} {R : List Addr} {s : Sl} {m : Mu} {a : E} (h1 : SR (G.W X) Z F R m H) (h2 : RS' (G.W X) F R s σ) (h3 : EPo (G.W X) Z (Rel (G.W X)) F R σ Q Wx (evE G.P (run G.P n) a s m)) : tE G n X Wx a σ H Q := ⟨Z, F, R, s, m, h1, h2, h3⟩

/-! ### constants, names -/
theorem e_non {j : Nat} {pos : Pos} : PE X (.Constant .none j pos) (tE G n X Wx .non) :=
  ⟨fun p s σ H Q I ⟨Z, F, R, sl, m, h1, h2, h3⟩ => pe_non.run p s σ H Q I (h3 F R H .non Le.refl h1 .non)⟩
theorem e_bl {b : Bool} {j : Nat} {pos : Pos} : PE X (.Constant (.bool b) j pos) (tE G n X Wx (.bl b)) :=
  ⟨fun p s σ H Q I ⟨Z, F, R, sl, m, h1, h2, h3⟩ => pe_bl.run p s σ H Q I (h3 F R H (.bl b) Le.refl h1 (.bl b))⟩
theorem e_int {i : Int} {j : Nat} {pos : Pos} : PE X (.Constant (.int i) j pos) (tE G n X Wx (.int i)) :=
  ⟨fun p s σ H Q I ⟨Z, F, R, sl, m, h1, h2, h3⟩ => pe_int.run p s σ H Q I (h3 F R H (.int i) Le.refl h1 (.int i))⟩
theorem e_str {x : Str} {j : Nat} {pos : Pos} : PE X (.Constant (.str x) j pos) (tE G n X Wx (.str x)) :=
  ⟨fun p s σ H Q I ⟨Z, F, R, sl, m, h1, h2, h3⟩ => pe_str.run p s σ H Q I (h3 F R H (.str x) Le.refl h1 (.str x))⟩
theorem e_var {i : Nat} {x : Str} {pos : Pos} (hN : X.N[i]? = some x) (hv : Vis X.env.scope x) (hd : (x == ("__debug__" : Str)) = false) (hcd : (x == ("__classdict__" : Str)) = false) : PE X (.Name x pos) (tE G n X Wx (.var i)) :=
  ⟨fun p s σ H Q I ⟨Z, F, R, sl, m, h1, h2, h3⟩ => (pe_var hN hv hd hcd).run p s σ H Q I (by
    unfold evE at h3
    cases e : sl[i]? with
    | none => rw [e] at h3; exact h3.elim
    | some o =>
      cases o with
      | none => rw [e] at h3; exact h3.elim
      | some d =>
        rw [e] at h3
        obtain ⟨v, a, b⟩ := h2.get i d e
        exact ⟨v, a, h3 F R H v Le.refl h1 b⟩)⟩

/-! ### operators by values -/
/-- f does by values what k tells -/
def OpS (G : Gd) (X : Cx) (Wx : WX) (f : Value → Value → Sem Value) (k : D → D → Mu → Res D) : Prop :=
  ∀ (p : List (Addr × Obj)) (s : Shared) (σ : L2.St) (Z F : Hp) (R : List Addr) (m : Mu) (H : Hp) (x y : D) (u v : V) (uu vv : Value) (Q : VK), Inv X p σ H s → SR (G.W X) Z F R m H →
    Rel (G.W X) F R x u → Rel (G.W X) F R y v → RelV u uu → RelV v vv → EPo (G.W X) Z (Rel (G.W X)) F R σ Q Wx (k x y m) → wpAny (model X.prog X.w) X.A (f uu vv) (EP X p σ Q) X.xe s
theorem e_two {a b : Expr} {a' b' : E} {f : Value → Value → Sem Value} {k : D → D → Mu → Res D} (ho : OpS G X Wx f k) (ha : PE X a (tE G n X Wx a')) (hb : PE X b (tE G n X Wx b'))
    {p : List (Addr × Obj)} {s : Shared} (I : Inv X p σ H s) {Z F : Hp} {R : List Addr} {sl : Sl} {m : Mu} (h1 : SR (G.W X) Z F R m H) (h2 : RS' (G.W X) F R sl σ)
    (h3 : EPo (G.W X) Z (Rel (G.W X)) F R σ Q Wx ((evE G.P (run G.P n) a' sl m).bind fun x m => (evE G.P (run G.P n) b' sl m).bind fun y m => k x y m)) :
    wpAny (model X.prog X.w) X.A (eval a X.env) (fun v s₁ => wpAny (model X.prog X.w) X.A (eval b X.env) (fun u s₂ => wpAny (model X.prog X.w) X.A (f v u) (EP X p σ Q) X.xe s₂) X.xe s₁) X.xe s := by
  refine binT (R := fun u v H' => ∃ x y m F' R', SR (G.W X) Z F' R' m H' ∧ Rel (G.W X) F' R' x u ∧ Rel (G.W X) F' R' y v ∧ EPo (G.W X) Z (Rel (G.W X)) F' R' σ Q Wx (k x y m)) ha hb I
    ⟨Z, F, R, sl, m, h1, h2, (EPo.bind (rel := Rel (G.W X)) h3).imp ?_⟩ fun vv uu s2 v u H2 I2 rv ru ⟨x, y, m2, F2, R2, s2', r1, r2, q⟩ => ho p s2 σ Z F2 R2 m2 H2 x y v u vv uu Q I2 s2' r1 r2 rv ru q
  rintro u H1 ⟨x, m1, F1, R1, _, l1, s1, r1, q1⟩
  refine ⟨Z, F1, R1, sl, m1, s1, h2.mono l1, (EPo.bind (rel := Rel (G.W X)) q1).imp ?_⟩
  rintro v H2 ⟨y, m2, F2, R2, _, l2, s2, r2, q2⟩
  exact ⟨x, y, m2, F2, R2, s2, r1.mono l2, r2, q2⟩
theorem e_bin {a b : Expr} {a' b' : E} {op : Operator} {o : Op2} {pos : Pos} (ho : OpS G X Wx (binaryOp op) fun x y m => op2 o m x y) (ha : PE X a (tE G n X Wx a')) (hb : PE X b (tE G n X Wx b')) :
    PE X (.BinOp a op b pos) (tE G n X Wx (.bin o a' b')) := by
  refine ⟨fun p s σ H Q I ⟨Z, F, R, sl, m, h1, h2, h3⟩ => ?_⟩
  unfold evE at h3
  exact wpAny_BinOp (e_two ho ha hb I h1 h2 h3)
theorem e_cmp {a b : Expr} {a' b' : E} {op : CmpOp} {o : Cm} {pos : Pos} (ho : OpS G X Wx (compareOp op) fun x y m => cmpD G.P (run G.P n) o x y m) (ha : PE X a (tE G n X Wx a')) (hb : PE X b (tE G n X Wx b'))
    (hm : behindInMarks op b = false) : PE X (.Compare a [op] [b] pos) (tE G n X Wx (.cmp a' o b')) := by
  refine ⟨fun p s σ H Q I ⟨Z, F, R, sl, m, h1, h2, h3⟩ => ?_⟩
  unfold evE at h3
  exact wpAny_Compare1 (e_two ho ha hb I h1 h2 h3) hm
/-- a value as it is in the heap: its own tree, or what its number holds -/
theorem Rel.dr {W : Wl} {Z F : Hp} {R : List Addr} {m : Mu} {H : Hp} {d : D} {v : V} (h : SR W Z F R m H) (r : Rel W F R d v) :
    ((∀ i, d ≠ .loc i) ∧ Pv.dr m d = d) ∨ (∃ (i : Nat) (a : Addr) (o : D) (u : HO), d = .loc i ∧ v = .ref a ∧ R[i]? = some a ∧ m[i]? = some (some o) ∧ Pv.dr m d = o ∧ H a = some u ∧ RelO W F R o u) ∨ (∃ i, d = .loc i ∧ Pv.dr m d = .loc i) := by
  cases r with
  | loc e =>
    rename_i i a
    cases q : m[i]? with
    | none => exact .inr (.inr ⟨i, rfl, by simp only [Pv.dr, q]⟩)
    | some o =>
      cases o with
      | none => exact .inr (.inr ⟨i, rfl, by simp only [Pv.dr, q]⟩)
      | some o =>
        obtain ⟨u, h1, h2⟩ := h.at_ i a o e q
        exact .inr (.inl ⟨i, a, o, u, rfl, rfl, e, q, by simp only [Pv.dr, q], h1, h2⟩)
  | _ => exact .inl ⟨fun _ z => (nomatch z), rfl⟩
/-- an int -/
theorem Rel.int_of {W : Wl} {Z F : Hp} {R : List Addr} {m : Mu} {H : Hp} {d : D} {v : V} {i : Int} (h : SR W Z F R m H) (r : Rel W F R d v) (e : Pv.dr m d = .int i) : v = .int i := by
  rcases r.dr h with ⟨_, q⟩ | ⟨j, a, o, u, rfl, _, _, _, q, _, ro⟩ | ⟨j, rfl, q⟩
  · rw [q] at e; subst e; cases r; rfl
  · rw [q] at e; subst e; cases ro
  · rw [q] at e; cases e
theorem Rel.bl_of {W : Wl} {Z F : Hp} {R : List Addr} {m : Mu} {H : Hp} {d : D} {v : V} {i : Bool} (h : SR W Z F R m H) (r : Rel W F R d v) (e : Pv.dr m d = .bl i) : v = .bl i := by
  rcases r.dr h with ⟨_, q⟩ | ⟨j, a, o, u, rfl, _, _, _, q, _, ro⟩ | ⟨j, rfl, q⟩
  · rw [q] at e; subst e; cases r; rfl
  · rw [q] at e; subst e; cases ro
  · rw [q] at e; cases e
theorem Rel.non_of {W : Wl} {Z F : Hp} {R : List Addr} {m : Mu} {H : Hp} {d : D} {v : V} (h : SR W Z F R m H) (r : Rel W F R d v) (e : Pv.dr m d = .non) : v = .non := by
  rcases r.dr h with ⟨_, q⟩ | ⟨j, a, o, u, rfl, _, _, _, q, _, ro⟩ | ⟨j, rfl, q⟩
  · rw [q] at e; subst e; cases r; rfl
  · rw [q] at e; subst e; cases ro
  · rw [q] at e; cases e
theorem Rel.str_of {W : Wl} {Z F : Hp} {R : List Addr} {m : Mu} {H : Hp} {d : D} {v : V} {x : Str} (h : SR W Z F R m H) (r : Rel W F R d v) (e : Pv.dr m d = .str x) : v = .str x := by
  rcases r.dr h with ⟨_, q⟩ | ⟨j, a, o, u, rfl, _, _, _, q, _, ro⟩ | ⟨j, rfl, q⟩
  · rw [q] at e; subst e; cases r; rfl
  · rw [q] at e; subst e; cases ro
  · rw [q] at e; cases e
/-- a list, to be read -/
theorem Rel.lst_of {W : Wl} {Z F : Hp} {R : List Addr} {m : Mu} {H : Hp} {d : D} {v : V} {xs : List D} (h : SR W Z F R m H) (r : Rel W F R d v) (e : Pv.dr m d = .lst xs) : ∃ a vs, v = .ref a ∧ H a = some (.lst vs) ∧ Rels W F R xs vs := by
  rcases r.dr h with ⟨_, q⟩ | ⟨j, a, o, u, rfl, ev, _, _, q, hu, ro⟩ | ⟨j, rfl, q⟩
  · rw [q] at e; subst e
    cases r with
    | lst ha rs => exact ⟨_, _, rfl, h.ex _ _ ha, rs⟩
  · rw [q] at e; subst e
    cases ro with
    | lst rs => exact ⟨a, _, ev, hu, rs⟩
  · rw [q] at e; cases e
theorem Rel.tup_of {W : Wl} {Z F : Hp} {R : List Addr} {m : Mu} {H : Hp} {d : D} {v : V} {xs : List D} (h : SR W Z F R m H) (r : Rel W F R d v) (e : Pv.dr m d = .tup xs) : ∃ a vs, v = .ref a ∧ SqT W.K H a vs ∧ Rels W F R xs vs := by
  rcases r.dr h with ⟨_, q⟩ | ⟨j, a, o, u, rfl, ev, _, _, q, hu, ro⟩ | ⟨j, rfl, q⟩
  · rw [q] at e; subst e
    cases r with
    | tup ha rs => exact ⟨_, _, rfl, sqT_mono h.ex ha, rs⟩
  · rw [q] at e; subst e; cases ro
  · rw [q] at e; cases e
/-- a tuple stands for itself -/
theorem Rel.whole {W : Wl} {Z F : Hp} {R : List Addr} {m : Mu} {H : Hp} {d : D} {v : V} {xs : List D} (h : SR W Z F R m H) (r : Rel W F R d v) (e : Pv.dr m d = .tup xs) : Rel W F R (.tup xs) v := by
  rcases r.dr h with ⟨_, q⟩ | ⟨j, a, o, u, rfl, ev, _, _, q, hu, ro⟩ | ⟨j, rfl, q⟩
  · rw [q] at e; subst e; exact r
  · rw [q] at e; subst e; cases ro
  · rw [q] at e; cases e
/-- the result of EPo, where it is one value and the state stays -/
theorem EPo.here {W : Wl} {Z F : Hp} {R : List Addr} {m : Mu} {d : D} {v : V} (h3 : EPo W Z (Rel W) F R σ Q Wx (.ok d m)) (h1 : SR W Z F R m H) (r : Rel W F R d v) : Q v H := h3 F R H v Le.refl h1 r
/-- .. a new tuple, a new list -/
theorem EPo.newT {W : Wl} {Z F : Hp} {R : List Addr} {m : Mu} {xs : List D} {vs : List V} (h3 : EPo W Z (Rel W) F R σ Q Wx (.ok (.tup xs) m)) (h1 : SR W Z F R m H) (r : Rels W F R xs vs) : ∀ q, H q = none → Q (.ref q) (upd H q (.tup vs)) := fun q hq => by
  obtain ⟨s, l⟩ := h1.new (o := .tup vs) hq
  exact h3 _ _ _ _ l s (.tup (.inl (.inl upd_same)) (r.mono l))
theorem EPo.newL {W : Wl} {Z F : Hp} {R : List Addr} {m : Mu} {xs : List D} {vs : List V} (h3 : EPo W Z (Rel W) F R σ Q Wx (.ok (.lst xs) m)) (h1 : SR W Z F R m H) (r : Rels W F R xs vs) : ∀ q, H q = none → Q (.ref q) (upd H q (.lst vs)) := fun q hq => by
  obtain ⟨s, l⟩ := h1.new (o := .lst vs) hq
  exact h3 _ _ _ _ l s (.lst upd_same (r.mono l))
theorem EPo.mkL {W : Wl} {Z F : Hp} {R : List Addr} {m : Mu} {xs : List D} {vs : List V} {k : Bool} (h3 : EPo W Z (Rel W) F R σ Q Wx (mk k m (.lst xs))) (h1 : SR W Z F R m H) (r : Rels W F R xs vs) : ∀ q, H q = none → Q (.ref q) (upd H q (.lst vs)) := by
  cases k with
  | false => exact EPo.newL h3 h1 r
  | true =>
    intro q hq
    obtain ⟨s, l, e⟩ := h1.num (o := .lst vs) (d := .lst xs) hq (.lst r)
    exact h3 _ _ _ _ l s (.loc e)
theorem big_le {k : Nat} (h : big k = true) : k ≤ sizeLine := by
  rw [sizeLine_eq]
  have := of_decide_eq_true h
  omega
theorem when_of {α : Type} {W : Wl} {β : Type} {rel : Hp → List Addr → α → β → Prop} {Z F : Hp} {R : List Addr} {σ : L2.St} {Q : β → Hp → Prop} {Wx : WX} {c : Bool} {r : Res α} (h : EPo W Z rel F R σ Q Wx (.when c r)) : c = true ∧ EPo W Z rel F R σ Q Wx r := by
  cases c with
  | true => exact ⟨rfl, h⟩
  | false => exact h.elim

/-! ### arithmetic -/
theorem o_add : OpS G X Wx (binaryOp .Add) fun x y m => op2 .add m x y := by
  intro p s σ Z F R m H x y u v uu vv Q I h1 rx ry ru rv h3
  replace h3 : EPo (G.W X) Z (Rel (G.W X)) F R σ Q Wx (addD m x y) := h3
  unfold addD at h3
  split at h3
  · rename_i i j e1 e2
    obtain rfl := rx.int_of h1 e1
    obtain rfl := ry.int_of h1 e2
    exact op_add p s σ H _ _ uu vv Q I ru rv ⟨i, j, rfl, rfl, h3.here h1 (.int _)⟩
  · rename_i i k e1 e2
    obtain rfl := rx.int_of h1 e1
    obtain rfl := ry.bl_of h1 e2
    exact op_add_ib p s σ H _ _ uu vv Q I ru rv ⟨i, k, rfl, rfl, h3.here h1 (.int _)⟩
  · rename_i a b e1 e2
    obtain ⟨hz, h3⟩ := when_of h3
    obtain rfl := rx.str_of h1 e1
    obtain rfl := ry.str_of h1 e2
    exact op_add_str p s σ H _ _ uu vv Q I ru rv ⟨a, b, rfl, rfl, big_le hz, h3.here h1 (.str _)⟩
  · rename_i xs ys e1 e2
    obtain ⟨hz, h3⟩ := when_of h3
    obtain ⟨a, vs, rfl, ha, ra⟩ := rx.lst_of h1 e1
    obtain ⟨b, ws, rfl, hb, rb⟩ := ry.lst_of h1 e2
    exact op_cat p s σ H _ _ uu vv Q I ru rv ⟨a, b, vs, ws, rfl, rfl, ha, hb, by rw [← ra.length, ← rb.length]; exact big_le hz, EPo.newL h3 h1 (ra.append rb)⟩
  · rename_i xs ys e1 e2
    obtain ⟨hz, h3⟩ := when_of h3
    obtain ⟨a, vs, rfl, ha, ra⟩ := rx.tup_of h1 e1
    obtain ⟨b, ws, rfl, hb, rb⟩ := ry.tup_of h1 e2
    refine op_catA p s σ H _ _ uu vv Q I ru rv ⟨a, b, vs, ws, rfl, rfl, ha, hb, by rw [← ra.length, ← rb.length]; exact big_le hz, fun e => ?_, fun _ e => ?_, fun _ _ => EPo.newT h3 h1 (ra.append rb)⟩
    · subst e
      cases ra
      exact h3.here h1 (ry.whole h1 e2)
    · subst e
      cases rb
      rw [List.append_nil] at h3
      exact h3.here h1 (rx.whole h1 e1)
  · exact h3.elim
theorem o_sub : OpS G X Wx (binaryOp .Sub) fun x y m => op2 .sub m x y := by
  intro p s σ Z F R m H x y u v uu vv Q I h1 rx ry ru rv h3
  replace h3 : EPo (G.W X) Z (Rel (G.W X)) F R σ Q Wx (subD m x y) := h3
  unfold subD at h3
  split at h3
  · rename_i i j e1 e2
    obtain rfl := rx.int_of h1 e1
    obtain rfl := ry.int_of h1 e2
    exact op_sub p s σ H _ _ uu vv Q I ru rv ⟨i, j, rfl, rfl, h3.here h1 (.int _)⟩
  · exact h3.elim
theorem o_mul : OpS G X Wx (binaryOp .Mult) fun x y m => op2 .mul m x y := by
  intro p s σ Z F R m H x y u v uu vv Q I h1 rx ry ru rv h3
  replace h3 : EPo (G.W X) Z (Rel (G.W X)) F R σ Q Wx (mulD m x y) := h3
  unfold mulD at h3
  split at h3
  · rename_i i j e1 e2
    obtain ⟨hz, h3⟩ := when_of h3
    obtain rfl := rx.int_of h1 e1
    obtain rfl := ry.int_of h1 e2
    refine op_mul p s σ H _ _ uu vv Q I ru rv ⟨i, j, rfl, rfl, ?_, h3.here h1 (.int _)⟩
    unfold mulOk at hz
    simp only [Bool.or_eq_true, Bool.and_eq_true, decide_eq_true_eq] at hz
    exact hz
  · rename_i xs k e1 e2
    obtain ⟨hz, h3⟩ := when_of h3
    obtain ⟨a, vs, rfl, ha, ra⟩ := rx.lst_of h1 e1
    obtain rfl := ry.int_of h1 e2
    simp only [Bool.and_eq_true, decide_eq_true_eq] at hz
    exact op_rep p s σ H _ _ uu vv Q I ru rv ⟨a, k, vs, rfl, rfl, ha, by omega, by omega, by rw [← ra.length]; exact big_le hz.2.2, EPo.newL h3 h1 (ra.flat _)⟩
  · exact h3.elim
theorem o_fdiv : OpS G X Wx (binaryOp .FloorDiv) fun x y m => op2 .fdiv m x y := by
  intro p s σ Z F R m H x y u v uu vv Q I h1 rx ry ru rv h3
  replace h3 : EPo (G.W X) Z (Rel (G.W X)) F R σ Q Wx (fdivD m x y) := h3
  unfold fdivD at h3
  split at h3
  · rename_i i j e1 e2
    obtain ⟨hz, h3⟩ := when_of h3
    obtain rfl := rx.int_of h1 e1
    obtain rfl := ry.int_of h1 e2
    simp only [Bool.and_eq_true, decide_eq_true_eq] at hz
    refine op_fdivW p s σ H _ _ uu vv Q I ru rv ⟨i, j, rfl, rfl, ⟨hz.1, ?_⟩, h3.here h1 (.int _)⟩
    have h : j.natAbs < 2 ^ 4096 := by
      have := hz.2
      have h0 := hz.1
      omega
    have h2 := Nat.log2_lt (by omega : j.natAbs ≠ 0) |>.mpr h
    omega
  · exact h3.elim
theorem o_mod : OpS G X Wx (binaryOp .Mod) fun x y m => op2 .mod m x y := by
  intro p s σ Z F R m H x y u v uu vv Q I h1 rx ry ru rv h3
  replace h3 : EPo (G.W X) Z (Rel (G.W X)) F R σ Q Wx (modD m x y) := h3
  unfold modD at h3
  split at h3
  · rename_i i j e1 e2
    obtain ⟨hz, h3⟩ := when_of h3
    obtain rfl := rx.int_of h1 e1
    obtain rfl := ry.int_of h1 e2
    exact op_mod p s σ H _ _ uu vv Q I ru rv ⟨i, j, rfl, rfl, of_decide_eq_true hz, h3.here h1 (.int _)⟩
  · exact h3.elim
theorem o_pow : OpS G X Wx (binaryOp .Pow) fun x y m => op2 .pow m x y := by
  intro p s σ Z F R m H x y u v uu vv Q I h1 rx ry ru rv h3
  replace h3 : EPo (G.W X) Z (Rel (G.W X)) F R σ Q Wx (powD m x y) := h3
  unfold powD at h3
  split at h3
  · rename_i i j e1 e2
    obtain ⟨hz, h3⟩ := when_of h3
    obtain rfl := rx.int_of h1 e1
    obtain rfl := ry.int_of h1 e2
    simp only [Bool.and_eq_true, decide_eq_true_eq] at hz
    exact op_pow p s σ H _ _ uu vv Q I ru rv ⟨i, j, rfl, rfl, ⟨hz.1, hz.2.1, by omega⟩, h3.here h1 (.int _)⟩
  · exact h3.elim

/-! ### data -/
section
variable {p : List (Addr × Obj)} {s : Shared} {Z F : Hp} {R : List Addr} {m : Mu}
theorem reads_all (I : Inv X p σ H s) {f : D → Option PyData} {k : Nat} (ih : ∀ d v u q, Rel (G.W X) F R d v → RelV v u → f d = some q → (∃ as, Reads s.heap u q as) ∧ q.plain = true ∧ q.depth ≤ k) :
    ∀ {ds : List D} {vs : List V} {us : List Value} {qs : List PyData}, Rels (G.W X) F R ds vs → Vals vs us → toPys f ds = some qs → (∃ as, ReadsAll s.heap us qs as) ∧ PyData.plainAll qs = true ∧ PyData.depthAll qs ≤ k
  | _, _, _, _, .nil, .nil, e => by
    cases e
    exact ⟨⟨_, .nil⟩, rfl, Nat.zero_le _⟩
  | _, _, _, qs, .cons (x := x) (xs := xs) r rs, .cons u us, e => by
    unfold toPys at e
    cases e1 : f x with
    | none => rw [e1] at e; cases e
    | some q =>
      rw [e1] at e
      cases e2 : toPys f xs with
      | none => rw [e2] at e; cases e
      | some q2 =>
        rw [e2] at e
        cases e
        obtain ⟨⟨a1, h1⟩, h2, h3⟩ := ih x _ _ q r u e1
        obtain ⟨⟨b1, k1⟩, k2, k3⟩ := reads_all I ih rs us e2
        refine ⟨⟨_, .cons h1 k1⟩, ?_, ?_⟩
        · simp only [PyData.plainAll, h2, k2, Bool.and_self]
        · simp only [PyData.depthAll]; omega
theorem reads_of (I : Inv X p σ H s) (h1 : SR (G.W X) Z F R m H) : ∀ (k : Nat) (d : D) (v : V) (u : Value) (q : PyData), Rel (G.W X) F R d v → RelV v u → toPy m k d = some q → (∃ as, Reads s.heap u q as) ∧ q.plain = true ∧ q.depth ≤ k
  | 0, _, _, _, _, _, _, e => by cases e
  | k + 1, d, v, u, q, r, ru, e => by
    have ih := reads_of I h1 k
    unfold toPy at e
    split at e
    · rename_i e1
      obtain rfl := r.non_of h1 e1
      cases e; cases ru
      exact ⟨⟨_, .none⟩, rfl, Nat.zero_le _⟩
    · rename_i b e1
      obtain rfl := r.bl_of h1 e1
      cases e; cases ru
      exact ⟨⟨_, .bool _⟩, rfl, Nat.zero_le _⟩
    · rename_i i e1
      obtain rfl := r.int_of h1 e1
      cases e; obtain ⟨t, rfl⟩ := ru
      exact ⟨⟨_, .int _ _⟩, rfl, Nat.zero_le _⟩
    · rename_i x e1
      obtain rfl := r.str_of h1 e1
      cases e; obtain ⟨t, rfl⟩ := ru
      exact ⟨⟨_, .str _ _⟩, rfl, Nat.zero_le _⟩
    · rename_i xs e1
      obtain ⟨a, vs, rfl, ha, ra⟩ := r.tup_of h1 e1
      cases ru
      cases e2 : toPys (toPy m k) xs with
      | none => rw [e2] at e; cases e
      | some qs =>
        rw [e2] at e
        cases e
        obtain ⟨its, rv, ⟨o, ho, hc, z, hd⟩, _⟩ := I.tuple ha
        obtain ⟨⟨as, h5⟩, h6, h7⟩ := reads_all I ih ra rv e2
        exact ⟨⟨_, .tuple ho hc hd h5⟩, h6, by simp only [PyData.depth]; omega⟩
    · rename_i xs e1
      obtain ⟨a, vs, rfl, ha, ra⟩ := r.lst_of h1 e1
      cases ru
      cases e2 : toPys (toPy m k) xs with
      | none => rw [e2] at e; cases e
      | some qs =>
        rw [e2] at e
        cases e
        obtain ⟨its, rv, ⟨o, z, ho, hc, _, hd⟩, _⟩ := I.list (SqL.of ha)
        obtain ⟨⟨as, h5⟩, h6, h7⟩ := reads_all I ih ra rv e2
        exact ⟨⟨_, .list ho hc hd h5⟩, h6, by simp only [PyData.depth]; omega⟩
    · cases e
end
end
end Pv

set_option Elab.async false
set_option linter.all false
set_option autoImplicit false
set_option maxRecDepth 100000
set_option maxHeartbeats 1000000
/-! PvD: comparisons, truth, displays. -/
namespace Pv
open PySem PySem.Spec PyProof.Rows L2

/-- what a def promises: what it evaluates to, n calls deep -/
def spEv (G : Gd) (W : Wl) (n f : Nat) : Sp := fun vs H Q E => vs.length = (G.pn f).length ∧ ∃ Z F R as m, SR W Z F R m H ∧ Rels W F R as vs ∧ EPo W Z (Rel W) F R [] Q (fun c d _ H => E c d H) (run G.P n f as m)
/-- what an exception's __init__ does: the fields in turn -/
def spXI (K : PySem.W.Frag) (fs : List Str) : Sp := fun vs H Q _ => ∃ (a C : Addr) (ws : List V), vs = .ref a :: ws ∧ ws.length = fs.length ∧ OexC K C ∧ (∀ f ∈ fs, PySem.W.findIn K (.ref C) f = some none) ∧ H a = some (exo a C none) ∧
  ∀ dx H', H dx = none → dx ≠ a → (∀ b, b ≠ a → b ≠ dx → H' b = H b) → H' a = some (exo a C (some dx)) → H' dx = some (exd dx (fs.zip ws).reverse) → Q .non H'
/-- an exception class with fields of its own -/
def XfOk (G : Gd) (X : Cx) (c : Nat) (fs : List Nat) : Prop := ∃ (fI : Addr) (fd : FuncData) (ps : List Str), OexC X.K (G.C c) ∧ PySem.W.findIn X.K (.ref (G.C c)) "__init__" = some (some (.ref fI)) ∧ PySem.W.typeIn X.K (.ref fI) = some (.type "function") ∧
  FnOk X.prog X.w X.K X.mg X.base (L2.CX X.prog X.w) 1 fI fd ps (spXI X.K (fs.map G.nm)) ∧ Binds X.K fd ps [] ∧ (∀ f ∈ fs, PySem.W.findIn X.K (.ref (G.C c)) (G.nm f) = some none) ∧ fs.length ≤ 900
/-- the context of a body -/
structure Cn (G : Gd) (n : Nat) (X : Cx) (Wx : WX) : Prop where
  calm : X.calm = true
  nd : X.N.Nodup
  tk : Takes X Wx
  po : PassesOwn (model X.prog X.w) X.A X.env X.xe
  rm : Room (3 * n + 2) X.A
  xf : ∀ c fs, G.P.exf c = some fs → XfOk G X c fs
  pnl : ∀ f d, G.P.df f = some d → (G.pn f).length = d.ps.length
  fns : ∀ f d, G.P.df f = some d → FnOk X.prog X.w X.K X.mg X.base (L2.CX X.prog X.w) (3 * n) (G.fa f) (G.fd f) (G.pn f) (spEv G (G.W X) n f)
section
variable {G : Gd} {n : Nat} {X : Cx} {Wx : WX} {σ : L2.St} {H : Hp} {Q : VK}

/-! ### order -/
theorem o_ltD {op : CmpOp} {f : Int → Int → Bool} {k : D → D → Mu → Res D} (hk : ∀ x y m, k x y m = ltD m x y f) (ho : OpR X (compareOp op) (rI0 fun i j => .bl (f i j))) : OpS G X Wx (compareOp op) k := by
  intro p s σ Z F R m H x y u v uu vv Q I h1 rx ry ru rv h3
  rw [hk] at h3
  unfold ltD at h3
  split at h3
  · rename_i i j e1 e2
    obtain rfl := rx.int_of h1 e1
    obtain rfl := ry.int_of h1 e2
    exact ho p s σ H _ _ uu vv Q I ru rv ⟨i, j, rfl, rfl, h3.here h1 (.bl _)⟩
  · exact h3.elim
theorem o_lt : OpS G X Wx (compareOp .Lt) fun x y m => cmpD G.P (run G.P n) .lt x y m := o_ltD (fun _ _ _ => rfl) op_lt
theorem o_le : OpS G X Wx (compareOp .LtE) fun x y m => cmpD G.P (run G.P n) .le x y m := o_ltD (fun _ _ _ => rfl) op_le
theorem o_gt : OpS G X Wx (compareOp .Gt) fun x y m => cmpD G.P (run G.P n) .gt x y m := o_ltD (fun _ _ _ => rfl) op_gt
theorem o_ge : OpS G X Wx (compareOp .GtE) fun x y m => cmpD G.P (run G.P n) .ge x y m := o_ltD (fun _ _ _ => rfl) op_ge

/-! ### is -/
theorem Rel.isN {W : Wl} {F : Hp} {R : List Addr} {d : D} {v : V} (r : Rel W F R d v) : decide (v = .non) = isN d := by
  cases r <;> simp [Pv.isN]
theorem o_is : OpS G X Wx (compareOp .Is) fun x y m => cmpD G.P (run G.P n) .is_ x y m := by
  intro p s σ Z F R m H x y u v uu vv Q I h1 rx ry ru rv h3
  replace h3 : EPo (G.W X) Z (Rel (G.W X)) F R σ Q Wx (isD m false x y) := h3
  unfold isD at h3
  split at h3
  · cases ry
    exact op_isN p s σ H _ _ uu vv Q I ru rv ⟨rfl, by rw [rx.isN]; exact h3.here h1 (.bl _)⟩
  · cases rx; cases ry; cases ru; cases rv
    exact is_bool ⟨.bl _, H, I, rfl, h3.here h1 (.bl _)⟩
  · exact h3.elim
theorem o_isnot : OpS G X Wx (compareOp .IsNot) fun x y m => cmpD G.P (run G.P n) .isnot x y m := by
  intro p s σ Z F R m H x y u v uu vv Q I h1 rx ry ru rv h3
  replace h3 : EPo (G.W X) Z (Rel (G.W X)) F R σ Q Wx (isD m true x y) := h3
  unfold isD at h3
  split at h3
  · cases ry
    exact op_notN p s σ H _ _ uu vv Q I ru rv ⟨rfl, by rw [rx.isN]; exact h3.here h1 (.bl _)⟩
  · cases rx; cases ry; cases ru; cases rv
    exact isnot_bool ⟨.bl _, H, I, rfl, h3.here h1 (.bl _)⟩
  · exact h3.elim

/-! ### ==, in, of data -/
theorem ofOpt_of {α β : Type} {W : Wl} {rel : Hp → List Addr → α → β → Prop} {Z F : Hp} {R : List Addr} {m : Mu} {o : Option α} {Q : β → Hp → Prop} (h : EPo W Z rel F R σ Q Wx (.ofOpt m o)) : ∃ a, o = some a ∧ EPo W Z rel F R σ Q Wx (.ok a m) := by
  cases o with
  | none => exact h.elim
  | some a => exact ⟨a, rfl, h⟩
theorem map_of {α β : Type} {f : α → β} {o : Option α} {b : β} (h : o.map f = some b) : ∃ a, o = some a ∧ f a = b := by
  cases o with
  | none => cases h
  | some a => exact ⟨a, rfl, by simpa using h⟩
theorem units60 (C : Cn G n X Wx) : X.A.units + 100 < cLine := by
  have := C.rm.un
  omega
theorem o_in (C : Cn G n X Wx) : OpS G X Wx (compareOp .In) fun x y m => cmpD G.P (run G.P n) .in_ x y m := by
  intro p s σ Z F R m H x y u v uu vv Q I h1 rx ry ru rv h3
  replace h3 : EPo (G.W X) Z (Rel (G.W X)) F R σ Q Wx (.ofOpt m ((anyD m x y).map fun k => .bl k)) := h3
  obtain ⟨a, e0, h3⟩ := ofOpt_of h3
  obtain ⟨k, e, rfl⟩ := map_of e0
  have un := units60 C
  unfold anyD at e
  split at e
  · rename_i pd qs e1 e2
    cases e
    obtain ⟨⟨_, r1⟩, p1, d1⟩ := reads_of I h1 60 _ _ _ _ rx ru e1
    obtain ⟨⟨_, r2⟩, p2, d2⟩ := reads_of I h1 60 _ _ _ _ ry rv e2
    simp only [PyData.plain] at p2
    exact SeqAt.in_list_data r2 r1 p2 p1 (by omega) ⟨.bl _, H, I, rfl, h3.here h1 (.bl _)⟩
  · rename_i pd qs e1 e2
    cases e
    obtain ⟨⟨_, r1⟩, p1, d1⟩ := reads_of I h1 60 _ _ _ _ rx ru e1
    obtain ⟨⟨_, r2⟩, p2, d2⟩ := reads_of I h1 60 _ _ _ _ ry rv e2
    simp only [PyData.plain] at p2
    exact SeqAt.in_tuple_data r2 r1 p2 p1 (by omega) ⟨.bl _, H, I, rfl, h3.here h1 (.bl _)⟩
  · cases e
theorem o_notin (C : Cn G n X Wx) : OpS G X Wx (compareOp .NotIn) fun x y m => cmpD G.P (run G.P n) .notin x y m := by
  intro p s σ Z F R m H x y u v uu vv Q I h1 rx ry ru rv h3
  replace h3 : EPo (G.W X) Z (Rel (G.W X)) F R σ Q Wx (.ofOpt m ((anyD m x y).map fun k => .bl (!k))) := h3
  obtain ⟨a, e0, h3⟩ := ofOpt_of h3
  obtain ⟨k, e, rfl⟩ := map_of (o := anyD m x y) (f := fun k => D.bl (!k)) e0
  have un := units60 C
  unfold anyD at e
  split at e
  · rename_i pd qs e1 e2
    cases e
    obtain ⟨⟨_, r1⟩, p1, d1⟩ := reads_of I h1 60 _ _ _ _ rx ru e1
    obtain ⟨⟨_, r2⟩, p2, d2⟩ := reads_of I h1 60 _ _ _ _ ry rv e2
    simp only [PyData.plain] at p2
    exact SeqAt.notIn_list_data r2 r1 p2 p1 (by omega) ⟨.bl _, H, I, rfl, h3.here h1 (.bl _)⟩
  · rename_i pd qs e1 e2
    cases e
    obtain ⟨⟨_, r1⟩, p1, d1⟩ := reads_of I h1 60 _ _ _ _ rx ru e1
    obtain ⟨⟨_, r2⟩, p2, d2⟩ := reads_of I h1 60 _ _ _ _ ry rv e2
    simp only [PyData.plain] at p2
    exact SeqAt.notIn_tuple_data r2 r1 p2 p1 (by omega) ⟨.bl _, H, I, rfl, h3.here h1 (.bl _)⟩
  · cases e

/-! ### truth -/
theorem str_tru (x : Str) : ((x.length : Int) != 0) = (x.length != 0) := by
  cases h : x.length
  · rfl
  · rename_i k
    have h1 : ((k + 1 : Nat) : Int) ≠ 0 := by omega
    have h2 : (k + 1 : Nat) ≠ 0 := by omega
    rw [bne_iff_ne.mpr h1, bne_iff_ne.mpr h2]
theorem tru_of {Z F : Hp} {R : List Addr} {m : Mu} {d : D} {v : V} {k : Bool} (h1 : SR (G.W X) Z F R m H) (r : Rel (G.W X) F R d v) (e : tru m d = some k) : TruV X.K v H k := by
  unfold tru at e
  split at e
  · rename_i e1
    obtain rfl := r.non_of h1 e1
    cases e; exact rfl
  · rename_i b e1
    obtain rfl := r.bl_of h1 e1
    cases e; exact rfl
  · rename_i i e1
    obtain rfl := r.int_of h1 e1
    cases e; exact rfl
  · rename_i x e1
    obtain rfl := r.str_of h1 e1
    by_cases hb : big x.length = true
    · rw [if_pos hb] at e
      cases e
      exact ⟨big_le hb, (str_tru x).symm⟩
    · rw [if_neg hb] at e; cases e
  · rename_i xs e1
    obtain ⟨a, vs, rfl, ha, ra⟩ := r.tup_of h1 e1
    cases e
    refine .inr (.inl ⟨vs, ha, ?_⟩)
    cases ra <;> rfl
  · rename_i xs e1
    obtain ⟨a, vs, rfl, ha, ra⟩ := r.lst_of h1 e1
    cases e
    refine .inl ⟨vs, SqL.of ha, ?_⟩
    cases ra <;> rfl
  · cases e
end
end Pv

set_option Elab.async false
set_option linter.all false
set_option autoImplicit false
set_option maxRecDepth 100000
/-! PvN: x != y where the class of x has its own == and no own !=. -/
namespace PySem.W
open PySem PyProof.Rows
open Builtin
section
variable {prog : Program} {w : World} {A A₀ : Around} {E : Value → Shared → Prop} {s : Shared} {K : Frag} {x C L f : Addr} {h₀ : Heap} {m : Str → Option Value} {ox : Obj} {od : Option Obj} {name : Str} {b tb : Value}
theorem ifBoundB_K {M : Model} {id : String} {args : List Value} {Q : Option Value → Shared → Prop} (X : K.In s.heap) (I : InstAt s.heap x ox C od) (hs : findIn K (.ref C) name = some (some (.builtin id)))
    (hb : ∀ self, bindSpecial (.builtin id) self = pure (.builtin id, [self])) (h : wpAny M A (call (.builtin id) (.ref x :: args)) (fun v => Q (some v)) E s) : wpAny M A (callSpecialIfBound? (.ref x) name args) Q E s := by
  simp only [callSpecialIfBound?, bindSpecialIfBound?]
  refine wpAny_holding (wpAny_bind (wpAny_bind (wpAny_bind (I.type.here ((looks_findIn X hs).here ?_)))))
  refine wpAny_bind (wpAny_askSetting (wpAny_ite ?_))
  have fin : wpAny M A (call (.builtin id) ([.ref x] ++ args) >>= fun v => pure (some v)) Q E s := wpAny_bind (wpAny_mono h (fun v s' h' => wpAny_pure h') fun _ _ h' => h')
  simp only [hb]
  split
  · exact wpAny_bind (wpAny_pure (wpAny_pure fin))
  · exact wpAny_tryCatch (wpAny_bind (wpAny_pure (wpAny_pure fin)))
theorem checkNe_K {M : Model} {rest : List Value} {Q : Unit → Shared → Prop} (X : K.In s.heap) (I : InstAt s.heap x ox C od) (hm : mroIn K C (.type "object") = some true)
    (ha : argsOk "object.__ne__" ⟨.ref x :: rest, []⟩) (hq : Q () s) : wpAny M A (checkBuiltinCall "object.__ne__" ⟨.ref x :: rest, []⟩) Q E s := by
  simp only [checkBuiltinCall, F.cmpKind_ne, F.cmpSplit_ne]
  refine wpAny_bind ?_
  unfold isInstance
  refine wpAny_bind (I.type.here ?_)
  refine (looks_mroIn X hm).here ?_
  cases hsig : Manifest.signature? "object.__ne__" with
  | none => exact wpAny_pure hq
  | some sig =>
    simp only [argsOk, hsig] at ha
    have h2 : Bind.checkArgs "object.__ne__" sig ⟨.ref x :: rest, []⟩ = pure () := ha
    show wpAny M A (Bind.checkArgs "object.__ne__" sig ⟨.ref x :: rest, []⟩) Q E _
    rw [h2]; exact wpAny_pure hq
def NeBack (Q : Value → Shared → Prop) (v : Value) (s' : Shared) : Prop := ∃ b, v = .bool b ∧ Q (.bool (!b)) s'
theorem neEntry_K {Q : Fin → Shared → Prop} (X : K.In s.heap) (I : InstAt s.heap x ox C od) (hs : findIn K (.ref C) "__eq__" = some (some (.ref f))) (hf : isFn K (.ref f) = true) (hu : A.units < cLine)
    (hcall : wpAny (model prog w) A (call (.ref f) [.ref x, b]) (fun v s' => ∃ k, v = .bool k ∧ Q (.done (.ret (.bool (!k)))) s') E s) :
    wpAny (model prog w) A (Builtin.«object.__ne__» ⟨[.ref x, b], []⟩) Q E s := by
  obtain ⟨h, g, d, t, os⟩ := s
  unfold Builtin.«object.__ne__»
  repeat (first
    | with_reducible refine wpAny_cRoomFor hu ?_
    | (refine wpAny_bind (m := callSpecialIfBound? (.ref x) (Str.ofString "__eq__") [b])
        (ifBound_K X I hs hf (wpAny_mono hcall (fun r s' hr => by
          obtain ⟨k, rfl, hq⟩ := hr
          repeat (first | exact hq | exact wpAny_pure hq | exact wpAny_truthy_bool hq | (refine wpAny_bind (m := truthy (.bool _)) (wpAny_truthy_bool ?_)) | wp_step)) fun _ _ e => e)))
    | wp_step)
theorem ne_K {Q : Value → Shared → Prop} (hu : A.units + 1 < cLine) (X : K.In s.heap) (I : InstAt s.heap x ox C od) (hb : Looks (model prog w) s.heap (typeOf b) tb) (hn : notFirst K C tb = true)
    (hne : findIn K (.ref C) "__ne__" = some (some (.builtin "object.__ne__"))) (hm : mroIn K C (.type "object") = some true) (hs : findIn K (.ref C) "__eq__" = some (some (.ref f))) (hf : isFn K (.ref f) = true)
    (ha : argsOk "object.__ne__" ⟨[.ref x, b], []⟩) (h : wpAny (model prog w) A.in1 (call (.ref f) [.ref x, b]) (NeBack Q) E s) : wpAny (model prog w) A (compareOp .NotEq (.ref x) b) Q E s := by
  have one : wpAny (model prog w) A (tryCompare (.ref x) "__ne__" b) (fun r s' => ∃ v, r = some v ∧ Q v s') E s := by
    unfold tryCompare
    refine wpAny_bind (ifBoundB_K X I hne F.cmp_object.ne.bind ?_)
    refine wpAny_call (codeAny_call_builtin F.cmp_object.ne.plain F.cmpEntry_ne (checkNe_K X I hm ha (neEntry_K X I hs hf (by first | exact hu | (show A.units + 1 < cLine; exact hu)) (wpAny_mono h (fun v s' hv => ?_) fun _ _ e => e))))
    obtain ⟨k, rfl, hq⟩ := hv
    first | exact ⟨k, rfl, wpAny_pure ⟨_, rfl, hq⟩⟩ | exact ⟨k, rfl, ⟨_, rfl, hq⟩⟩
  unfold compareOp richCompare
  simp only [oneThing_ref]
  refine wpAny_holding (wpAny_bind (wpAny_cRoomFor (by omega) ?_))
  rw [cmpInfo_NotEq]
  dsimp only
  refine wpAny_bind (I.type.here (wpAny_bind (hb.here ?_)))
  split
  · rename_i q
    have e : subIn K tb (.ref C) = some false := by
      rcases Bool.or_eq_true_iff.mp hn with e | e
      · rw [beq_iff_eq.mp e] at q; simp at q
      · exact beq_iff_eq.mp e
    refine wpAny_bind ((looks_subIn X e).here ?_)
    simp only [Bool.false_eq_true, if_false]
    refine wpAny_bind (wpAny_mono one (fun r s' z => ?_) fun _ _ e => e)
    obtain ⟨v, rfl, hq⟩ := z
    exact wpAny_pure hq
  · refine wpAny_bind (wpAny_pure ?_)
    simp only [Bool.false_eq_true, if_false]
    refine wpAny_bind (wpAny_mono one (fun r s' z => ?_) fun _ _ e => e)
    obtain ⟨v, rfl, hq⟩ := z
    exact wpAny_pure hq
/-! ### isinstance of an exception with a dict -/
theorem findObj_dataG {C : Addr} {a g : Value} (hc : (clsIn K C).isSome = true) (ha : findIn K (.ref C) name = some (some a)) (hg : specialIn K a "__get__" = some (some g)) (ht : takesIn K a = some true) : findObj K C od name = some (.bind g a) := by
  obtain ⟨cd, hc⟩ := Option.isSome_iff_exists.mp hc
  unfold findObj
  rw [hc, Option.bind_some, ha, Option.bind_some]
  simp [hg, ht]
theorem kin_classG {D : Addr} {Q : Option Value → Shared → Prop} (T : L2.ExcC K D) (X : K.In s.heap) (I : InstAt s.heap x ox D od) (h : Q (some (.ref D)) { s with toks := s.toks + 1 }) : wpAny (model prog w) A (getAttr? (.ref x) "__class__") Q E s := by
  have hf : findObj K D od "__class__" = some (.bind (.builtin "getset_descriptor.__get__") (.builtin "object.__class__")) := findObj_dataG (by obtain ⟨cd, hc, _⟩ := any_some T.hd; rw [hc]; rfl) T.ha T.hn T.ht
  obtain ⟨hp, g, d, t, os⟩ := s
  have a0 := I.type (M := model prog w)
  have a1 := looks_findIn (M := model prog w) X T.hg
  have a2 := looks_findIn (M := model prog w) X T.hk
  have a3 := looks_find (M := model prog w) X I hf
  have sub : Looks (model prog w) hp (isInstance (.ref x) (.type "BaseException")) true := a0.andThen (looks_subIn X T.hs)
  have hx0 : (false && onTheHeap (Value.builtin "BaseException.__getattribute__")) = false := rfl
  have hx2 : (Value.builtin "BaseException.__getattribute__" == Value.builtin "object.__getattribute__") = false := by decide +kernel
  have hx1 : (onTheHeap (Value.ref D) && Value.builtin "BaseException.__getattribute__" == Value.builtin "object.__getattribute__") = false := by rw [hx2]; rfl
  unfold getAttr? getAttrBy? getAttrBy
  refine wpAny_bind (wpAny_mkText (wpAny_bind (wpAny_attempt (wpAny_holding (wpAny_bind (a0.at (wpAny_bind (a1.at ?_))))))))
  show wpAny _ _ (if (onTheHeap (Value.ref D) && Value.builtin "BaseException.__getattribute__" == Value.builtin "object.__getattribute__") = true then _ else _) _ _ _
  rw [hx1, if_neg Bool.false_ne_true]
  unfold getAttrByItsOwn hookBefore
  refine wpAny_bind ?_
  rw [if_pos (show onTheHeap (Value.ref D) = true from rfl)]
  refine a2.at ?_
  refine wpAny_bind (wpAny_attempt (wpAny_holding ?_))
  unfold callGetattribute
  rw [hx0, if_neg Bool.false_ne_true]
  unfold boundAndCalled
  rw [PySem.F.excAttr_ValueError.ga.bind (.ref x)]
  refine wpAny_bind (wpAny_pure ?_)
  show wpAny _ _ (call (.builtin "BaseException.__getattribute__") [.ref x, .str "__class__" t]) _ _ _
  refine wpAny_call (codeAny_call_builtin PySem.F.excAttr_ValueError.ga.plain PySem.F.entry_bexc_ga ?_)
  refine @check_slot (model prog w) _ _ ⟨hp, g, d, t + 1, os⟩ "BaseException.__getattribute__" "BaseException" "__getattribute__" (.ref x) [.str "__class__" t] [] _ (by decide +kernel) (by decide +kernel) sub (PySem.F.args_bexc_ga (.ref x) (.str "__class__" t)) ?_
  unfold Builtin.«object.__getattribute__»
  refine wpAny_bind (wpAny_of_eq (a := ((Value.ref x : Value), [Value.str "__class__" t])) (by first | rfl | (simp only [slotArgs]; rfl)) ?_)
  refine wpAny_bind (wpAny_pure (wpAny_bind (a0.at (wpAny_bind (a3.at ?_)))))
  show wpAny _ _ (holding [Value.builtin "object.__class__"] (call (.builtin "getset_descriptor.__get__") [.builtin "object.__class__", .ref x, .ref D]) >>= ret) _ _ _
  refine wpAny_bind (wpAny_holding (wpAny_call (class_get (s := ⟨hp, g, d, t + 1, os⟩) (ox := ox) (od := od) X I T.hm ?_)))
  refine wpAny_pure ?_
  show wpAny _ _ (handedOut (.ref D)) _ _ _
  rw [handedOut_of (v := .ref D) rfl]
  first
    | exact wpAny_pure (wpAny_pure h)
    | exact wpAny_pure h
    | exact wpAny_pure (wpAny_bind (wpAny_pure (wpAny_pure h)))
theorem kitx_excG {D : Addr} (T : L2.ExcC K D) : KitX K (.ref x) (.ref D) (fun h => InstAt h x ox D od) where
  ty := fun _ _ _ I => I.type
  it := fun _ _ X _ => by
    obtain ⟨cdD, hcD, _⟩ := any_some T.hd
    unfold clsIn at hcD
    split at hcD
    · rename_i c' d' cd' sl' ho
      intro A' Q' E' s' k q
      unfold isType loadHead
      exact wpAny_bind (wpAny_loadPart (k _ _ (X _ _ ho)) (wpAny_pure q))
    · cases hcD
  ne := fun h tp dd its n sl X htp => by
    obtain ⟨cdD, hcD, _⟩ := any_some T.hd
    refine Bool.eq_false_iff.mpr fun q => ?_
    have e : D = tp := Value.ref.inj (beq_iff_eq.mp q)
    subst e
    unfold clsIn at hcD
    split at hcD
    · rename_i c' d' cd' sl' ho
      have z := (X _ _ ho).symm.trans htp
      cases z
    · cases hcD
  ca := fun X I k => kin_classG T X I k
end
end PySem.W

set_option Elab.async false
set_option linter.all false
set_option autoImplicit false
set_option maxRecDepth 100000
set_option maxHeartbeats 1000000
/-! PvE: own classes: isinstance, ==, fields. -/
namespace Pv
open PySem PySem.Spec PyProof.Rows L2

/-- what an own class says, so that isinstance asks its instances rightly -/
structure InsC (K : PySem.W.Frag) (C : Addr) : Prop where
  cl : Cls K C
  ha : PySem.W.findIn K (.ref C) "__class__" = some (some (.builtin "object.__class__"))
  hn : PySem.W.specialIn K (.builtin "object.__class__") "__get__" = some (some (.builtin "getset_descriptor.__get__"))
  ht : PySem.W.takesIn K (.builtin "object.__class__") = some true
  hm : PySem.W.mroIn K C (.type "object") = some true
/-- a class with its own ==, without an own != -/
structure EqC (K : PySem.W.Frag) (C f : Addr) : Prop where
  eq : PySem.W.findIn K (.ref C) "__eq__" = some (some (.ref f))
  fn : PySem.W.isFn K (.ref f) = true
  ne : PySem.W.findIn K (.ref C) "__ne__" = some (some (.builtin "object.__ne__"))
def tyAll : List String := ["NoneType", "bool", "int", "str", "tuple", "list", "dict"]
structure ClF (G : Gd) (K : PySem.W.Frag) : Prop where
  nmI : ∀ f g, G.nm f = G.nm g → f = g
  cl : ∀ c, G.P.cls c = true → InsC K (G.C c)
  xc : ∀ c, G.P.xcls c = true → ExcC K (G.C c) ∧ XfC K (G.C c)
  tyB : ∀ c, (G.P.cls c || G.P.xcls c) = true → ∀ T ∈ tyAll, PySem.W.kitOne K (.type T) (.ref (G.C c)) = some false ∧ PySem.W.notFirst K (G.C c) (.type T) = true
  kiB : ∀ c, (G.P.cls c || G.P.xcls c) = true → ∀ n ∈ tyNs, PySem.W.kitOne K (.ref (G.C c)) (.type n) = some false
  kiC : ∀ c c', (G.P.cls c || G.P.xcls c) = true → (G.P.cls c' || G.P.xcls c') = true → PySem.W.kitOne K (.ref (G.C c')) (.ref (G.C c)) = some (G.P.sub c' c)
  exm : ∀ c k, G.P.xcls c = true → G.P.xcls k = true → PySem.W.exmOne K (.ref (G.C c)) (.ref (G.C k)) = some (G.P.sub c k)
  eqm : ∀ c f, G.P.eqm c = some f → G.P.cls c = true ∧ EqC K (G.C c) (G.fa f) ∧ ∃ d, G.P.df f = some d
  meth : ∀ c m f, G.P.meth c m = some f → Meth K (G.C c) (G.nm m) (G.fa f)
  fld : ∀ c f, G.P.fld c f = true → NoAttr K (G.C c) (G.nm f)
  prop : ∀ c f g, G.P.prop c f = some g → G.P.cls c = true ∧ (∃ p, PropOf K (G.C c) (G.nm f) p (G.fa g)) ∧ ∃ d, G.P.df g = some d
  df : ∀ f d, G.P.df f = some d → PySem.W.keepIn K (.ref (G.fa f)) = true ∧ Binds K (G.fd f) (G.pn f) []
  strm : ∀ c f, G.P.strm c = some f → G.P.cls c = true ∧ PySem.W.findIn K (.ref (G.C c)) "__str__" = some (some (.ref (G.fa f))) ∧ PySem.W.isFn K (.ref (G.fa f)) = true ∧ ∃ d, G.P.df f = some d
  boolm : ∀ c f, G.P.boolm c = some f → G.P.cls c = true ∧ PySem.W.findIn K (.ref (G.C c)) "__bool__" = some (some (.ref (G.fa f))) ∧ PySem.W.isFn K (.ref (G.fa f)) = true ∧ ∃ d, G.P.df f = some d
  init : ∀ c f, G.P.init c = some f → Mk K (G.C c) (G.fa f) ∧ ∃ d, G.P.df f = some d

theorem kitTab : ∀ t ∈ tyAll, ∀ n ∈ tyNs, kitB t n = some (isTy t n) := by decide +kernel
section
variable {G : Gd} {n : Nat} {X : Cx} {Wx : WX} {σ : L2.St} {H : Hp} {Q : VK} {Z F : Hp} {R : List Addr} {m : Mu}
theorem tyX_lst {K : PySem.W.Frag} {a : Addr} {vs : List V} (h : H a = some (.lst vs)) : TyX K H (.ref a) (.type "list") := .base (.lst h)
theorem tyX_tup {K : PySem.W.Frag} {a : Addr} {vs : List V} (h : SqT K H a vs) : TyX K H (.ref a) (.type "tuple") := by
  rcases h with (h | ⟨o, h⟩) | ⟨o, its, k, h, c, _⟩
  · exact .base (.tup h)
  · exact .fTuple h
  · exact .kTuple h c
theorem tyN_all {d : D} {t : String} (e : tyN d = some t) : t ∈ tyAll := by
  cases d <;> simp [tyN] at e <;> subst e <;> decide
theorem ty_of (h1 : SR (G.W X) Z F R m H) {d : D} {v : V} (r : Rel (G.W X) F R d v) {t : String} (e : tyN (dr m d) = some t) : TyX X.K H v (.type t) := by
  generalize e0 : dr m d = d0 at e
  cases d0 <;> simp [tyN] at e <;> subst e
  · obtain rfl := r.non_of h1 e0; exact .base .non
  · obtain rfl := r.bl_of h1 e0; exact .base (.bl _)
  · obtain rfl := r.int_of h1 e0; exact .base (.int _)
  · obtain rfl := r.str_of h1 e0; exact .base (.str _)
  · obtain ⟨a, vs, rfl, ha, ra⟩ := r.tup_of h1 e0; exact tyX_tup ha
  · obtain ⟨a, vs, rfl, ha, ra⟩ := r.lst_of h1 e0; exact tyX_lst ha
  · rcases r.dr h1 with ⟨_, q⟩ | ⟨j, a, o, u, rfl, _, _, _, q, _, ro⟩ | ⟨j, rfl, q⟩
    · rw [q] at e0; subst e0
      cases r with
      | kdic hk =>
        obtain ⟨es, k, D, _⟩ := hk
        exact .kDict D.at_ rfl
      | dk hk => exact .base (.dK (h1.ex _ _ hk))
    · rw [q] at e0; subst e0; cases ro
    · rw [q] at e0; cases e0
/-- an instance -/
theorem Rel.ins_of {W : Wl} {d : D} {v : V} {c : Nat} {fs : List (Nat × D)} (h : SR W Z F R m H) (r : Rel W F R d v) (e : Pv.dr m d = .ins c fs) : ∃ a dx gs, v = .ref a ∧ H a = some (.ins (W.C c) dx gs) ∧ RelF W F R fs gs := by
  rcases r.dr h with ⟨_, q⟩ | ⟨j, a, o, u, rfl, ev, _, _, q, hu, ro⟩ | ⟨j, rfl, q⟩
  · rw [q] at e; subst e
    cases r with
    | ins ha rs => exact ⟨_, _, _, rfl, h.ex _ _ ha, rs⟩
  · rw [q] at e; subst e
    cases ro with
    | ins rs => exact ⟨a, _, _, ev, hu, rs⟩
  · rw [q] at e; cases e
theorem Rel.exc_of {W : Wl} {d : D} {v : V} {c : Nat} {fs : List (Nat × D)} (h : SR W Z F R m H) (r : Rel W F R d v) (e : Pv.dr m d = .exc c fs) :
    ∃ a dx gs, v = .ref a ∧ H a = some (ExT (.ref (W.C c)) (some dx) a) ∧ H dx = some (.xd gs) ∧ RelF W F R fs gs := by
  rcases r.dr h with ⟨_, q⟩ | ⟨j, a, o, u, rfl, ev, _, _, q, hu, ro⟩ | ⟨j, rfl, q⟩
  · rw [q] at e; subst e
    cases r with
    | exc ha hd rs => exact ⟨_, _, _, rfl, h.ex _ _ ha, h.ex _ _ hd, rs⟩
  · rw [q] at e; subst e; cases ro
  · rw [q] at e; cases e
/-- how an exception stands -/
theorem ext_at {p : List (Addr × Obj)} {s : Shared} (I : Inv X p σ H s) {a dx : Addr} {cls : Value} {gs : List (Str × V)} {C : Addr} (ec : cls = .ref C) (ha : H a = some (ExT cls (some dx) a)) (hd : H dx = some (.xd gs)) :
    ∃ oe od, PySem.W.InstAt s.heap a oe C (some od) ∧ ∀ f, L2.RelO (gs.lookup f) ((PySem.W.lookIn f od).bind id) ∧ (PySem.W.lookIn f od).isSome = true := by
  obtain ⟨⟨oe, vs, h1, hz, h2⟩, _⟩ := (show ObjOk X.prog X.w H s.heap a (ExT cls (some dx) a) from I.hok a _ ha)
  obtain ⟨mA, hns, hr⟩ := (show ObjOk X.prog X.w H s.heap dx (.xd gs) from I.hok dx _ hd)
  obtain ⟨od, ho, hl⟩ := lookIn_ns hns
  subst ec
  refine ⟨oe, od, ⟨h1, hz.1, by unfold PySem.W.notCls; rw [h2], by rw [hz.2]; exact ho⟩, fun f => ?_⟩
  rw [hl]
  exact ⟨hr f, rfl⟩

/-! ### isinstance -/
def clsV (C : Nat → Addr) : TyR → V
  | .bty n => .ty n
  | .cls c => .ref (C c)
def clsU (C : Nat → Addr) : TyR → Value
  | .bty n => .type n
  | .cls c => .ref (C c)
theorem clsV_rel (C : Nat → Addr) (t : TyR) {u : Value} (r : RelV (clsV C t) u) : u = clsU C t := by
  cases t <;> exact r
theorem clsV_all (C : Nat → Addr) : ∀ {ts : List TyR} {us : List Value}, Vals (ts.map (clsV C)) us → us = ts.map (clsU C)
  | [], _, .nil => rfl
  | t :: ts, _, .cons a b => by rw [clsV_rel C t a, clsV_all C b]; rfl
theorem kit_D (cf : ClF G X.K) {p : List (Addr × Obj)} {s : Shared} (I : Inv X p σ H s) (h1 : SR (G.W X) Z F R m H) {d : D} {v : V} {u : Value} (r : Rel (G.W X) F R d v) (ru : RelV v u) (kn : tyN (dr m d) = none → ∃ c, (∃ fs, dr m d = .ins c fs ∧ G.P.cls c = true) ∨ ∃ fs, dr m d = .exc c fs ∧ G.P.xcls c = true) :
    ∃ (t : Value) (P : Heap → Prop), PySem.W.KitX X.K u t P ∧ P s.heap ∧ u ≠ .builtin "__main__.__loader__#opaque" ∧ ∀ ty b, isT G.P (dr m d) ty = some b → PySem.W.kitOne X.K t (clsU G.C ty) = some b := by
  cases e : tyN (dr m d) with
  | some T =>
    obtain ⟨P, k1, k2, k3⟩ := kit_of I ru (ty_of h1 r e)
    refine ⟨_, P, k1, k2, k3, fun ty b hb => ?_⟩
    cases ty with
    | bty n =>
      simp only [isT] at hb
      by_cases hn : tyNs.contains n = true
      · rw [if_pos hn, e] at hb
        cases hb
        exact kit_ty (kitTab _ (tyN_all e) _ (by simpa using hn))
      · rw [if_neg hn] at hb; cases hb
    | cls c =>
      simp only [isT] at hb
      by_cases hn : (G.P.cls c || G.P.xcls c) = true
      · rw [if_pos hn, e] at hb
        cases hb
        exact (cf.tyB c hn _ (tyN_all e)).1
      · rw [if_neg hn] at hb; cases hb
  | none =>
    obtain ⟨c, ⟨fs, e2, hc⟩ | ⟨fs, e2, hc⟩⟩ := kn e
    · have hk : (G.P.cls c || G.P.xcls c) = true := by rw [hc]; rfl
      obtain ⟨a, dx, gs, rfl, ha, _⟩ := r.ins_of h1 e2
      have ic := cf.cl c hc
      obtain ⟨P, k1, k2, k3⟩ := kit_of I ru (.base (.ins ha ic.cl ic.ha ic.hn ic.ht ic.hm))
      refine ⟨_, P, k1, k2, k3, fun ty b hb => ?_⟩
      cases ty with
      | bty n =>
        simp only [isT] at hb
        by_cases hn : tyNs.contains n = true
        · rw [if_pos hn, e, e2] at hb
          simp only [hc, if_true] at hb
          cases hb
          exact cf.kiB c hk n (by simpa using hn)
        · rw [if_neg hn] at hb; cases hb
      | cls c' =>
        simp only [isT] at hb
        by_cases hn : (G.P.cls c' || G.P.xcls c') = true
        · rw [if_pos hn, e, e2] at hb
          simp only [hc, if_true] at hb
          cases hb
          exact cf.kiC c' c hn hk
        · rw [if_neg hn] at hb; cases hb
    · have hk : (G.P.cls c || G.P.xcls c) = true := by rw [hc, Bool.or_true]
      obtain ⟨a, dx, gs, rfl, ha, hd, _⟩ := r.exc_of h1 e2
      obtain ⟨oe, od, J, _⟩ := ext_at I rfl ha hd
      cases (show u = Value.ref a from ru)
      refine ⟨.ref (G.C c), fun h => PySem.W.InstAt h a oe (G.C c) (some od), PySem.W.kitx_excG (cf.xc c hc).1, J, (fun z => nomatch z), fun ty b hb => ?_⟩
      cases ty with
      | bty n =>
        simp only [isT] at hb
        by_cases hn : tyNs.contains n = true
        · rw [if_pos hn, e, e2] at hb
          simp only [hc, if_true] at hb
          cases hb
          exact cf.kiB c hk n (by simpa using hn)
        · rw [if_neg hn] at hb; cases hb
      | cls c' =>
        simp only [isT] at hb
        by_cases hn : (G.P.cls c' || G.P.xcls c') = true
        · rw [if_pos hn, e, e2] at hb
          simp only [hc, if_true] at hb
          cases hb
          exact cf.kiC c' c hn hk
        · rw [if_neg hn] at hb; cases hb
theorem isT_kn {P : Pr} {d : D} {ty : TyR} {b : Bool} (h : isT P d ty = some b) (e : tyN d = none) : ∃ c, (∃ fs, d = .ins c fs ∧ P.cls c = true) ∨ ∃ fs, d = .exc c fs ∧ P.xcls c = true := by
  cases ty with
  | bty n =>
    simp only [isT] at h
    split at h
    · rw [e] at h
      cases d <;> simp at h
      · exact ⟨_, .inl ⟨_, rfl, h.1⟩⟩
      · exact ⟨_, .inr ⟨_, rfl, h.1⟩⟩
    · cases h
  | cls c =>
    simp only [isT] at h
    split at h
    · rw [e] at h
      cases d <;> simp at h
      · exact ⟨_, .inl ⟨_, rfl, h.1⟩⟩
      · exact ⟨_, .inr ⟨_, rfl, h.1⟩⟩
    · cases h
theorem isAny_kit {P : Pr} {K : PySem.W.Frag} {C : Nat → Addr} {d : D} {t : Value} (h : ∀ ty b, isT P d ty = some b → PySem.W.kitOne K t (clsU C ty) = some b) : ∀ {ts : List TyR} {b : Bool}, isAny P d ts = some b → PySem.W.kitAny K t (ts.map (clsU C)) = some b
  | [], _, e => e
  | ty :: ts, b, e => by
    unfold isAny at e
    cases e1 : isT P d ty with
    | none => rw [e1] at e; cases e
    | some k =>
      rw [e1] at e
      have k1 := h ty k e1
      rw [List.map_cons]
      unfold PySem.W.kitAny
      rw [k1]
      cases k with
      | true => simpa using e
      | false => exact isAny_kit h (by simpa using e)
def tCs (vs : List V) : TA := fun _ H Q => Q vs H
theorem pa_cs0 : PA X [] (tCs []) := pa_nil
theorem pa_cs {e : Expr} {es : List Expr} {v : V} {vs : List V} (ha : PE X e (tC v)) (hr : PA X es (tCs vs)) (hs : starEach (e :: es) X.env = (false, eval e X.env) :: starEach es X.env := by rfl) : PA X (e :: es) (tCs (v :: vs)) := pa_cons ha hr hs
def rIs1 (G : Gd) (X : Cx) (ty : TyR) : List V → Hp → VK → Prop := fun xs H Q => ∃ Z F R m d v b, xs = [v, clsV G.C ty] ∧ SR (G.W X) Z F R m H ∧ Rel (G.W X) F R d v ∧ isT G.P (dr m d) ty = some b ∧ Q (.bl b) H
theorem call_is1 (cf : ClF G X.K) (ty : TyR) : CallR X (.builtin "isinstance") (rIs1 G X ty) := by
  intro pins s σ H xs us Q I r h
  obtain ⟨Z, F, R, m, d, v, b, rfl, h1, rd, e, q⟩ := h
  obtain ⟨u1, u2, rfl, r1, r2⟩ := vals2 r
  rw [clsV_rel _ _ r2]
  obtain ⟨t, P, k1, k2, k3, k4⟩ := kit_D cf I h1 rd r1 fun e0 => isT_kn e e0
  exact PySem.W.kia_one k1 I.kIn k2 (k4 _ _ e) k3 fun tk => ⟨.bl b, H, I.tok tk, rfl, q⟩
theorem isAny_kn {P : Pr} {d : D} {t : TyR} {ts : List TyR} {b : Bool} (h : isAny P d (t :: ts) = some b) : ∃ k, isT P d t = some k := by
  unfold isAny at h
  cases e1 : isT P d t with
  | none => rw [e1] at h; cases h
  | some k => exact ⟨k, rfl⟩
def rIsN (G : Gd) (X : Cx) (t : TyR) (ts : List TyR) : List V → Hp → VK → Prop := fun xs H Q => ∃ Z F R m d v b tp, xs = [v, .ref tp] ∧ H tp = some (.tup ((t :: ts).map (clsV G.C))) ∧ SR (G.W X) Z F R m H ∧ Rel (G.W X) F R d v ∧ isAny G.P (dr m d) (t :: ts) = some b ∧ Q (.bl b) H
theorem call_isN (cf : ClF G X.K) (t : TyR) (ts : List TyR) : CallR X (.builtin "isinstance") (rIsN G X t ts) := by
  intro pins s σ H xs us Q I r h
  obtain ⟨Z, F, R, m, d, v, b, tp, rfl, hT, h1, rd, e, q⟩ := h
  obtain ⟨u1, u2, rfl, r1, r2⟩ := vals2 r
  cases (show u2 = Value.ref tp from r2)
  obtain ⟨k, ek⟩ := isAny_kn e
  obtain ⟨tv, P, k1, k2, k3, k4⟩ := kit_D cf I h1 rd r1 fun e0 => isT_kn ek e0
  obtain ⟨_, its, rv, o, g1, g2, n, g3⟩ := (show ObjOk X.prog X.w H s.heap tp (.tup _) from I.hok tp _ hT)
  have e3 := clsV_all G.C rv
  subst e3
  obtain ⟨oc, od, dt, sl⟩ := o
  simp only at g2 g3
  subst g2 g3
  exact PySem.W.kia_tup k1 I.kIn k2 g1 (isAny_kit k4 e) k3 fun tk => ⟨.bl b, H, I.tok tk, rfl, q⟩
theorem e_isi1 (cf : ClF G X.K) {a ce : Expr} {a' : E} {ty : TyR} {p pos : Pos} (hg : Gl X "isinstance") (hm : X.mg "isinstance" = none) (ha : PE X a (tE G n X Wx a')) (hc : PE X ce (tC (clsV G.C ty))) (he : starEach [a, ce] X.env = (false, eval a X.env) :: starEach [ce] X.env := by rfl) (hs2 : starEach [ce] X.env = (false, eval ce X.env) :: starEach [] X.env := by rfl)
    (hpl : (backTo pos (starEach [ce] X.env)).any (·.1) = false := by rfl) : PE X (.Call (.Name "isinstance" p) [a, ce] [] pos) (tE G n X Wx (.isi a' [ty])) := by
  refine ⟨fun pins s σ H Q I ⟨Z, F, R, sl, m, h1, h2, h3⟩ => ?_⟩
  refine (pe_callB (call_is1 (G := G) cf ty) hg hm (by rfl) (pa_cons ha (pa_cs hc pa_cs0 hs2) he) (he := he) (hpl := hpl)).run pins s σ H Q I ⟨Z, F, R, sl, m, h1, h2, ?_⟩
  unfold evE at h3
  refine (EPo.bind (rel := Rel (G.W X)) h3).imp ?_
  rintro v H1 ⟨x, m1, F1, R1, _, l1, s1, r1, q1⟩
  obtain ⟨b, e0, q1⟩ := ofOpt_of q1
  obtain ⟨k, e, rfl⟩ := map_of e0
  obtain ⟨k1, ek⟩ := isAny_kn e
  have : k1 = k := by
    unfold isAny at e
    rw [ek] at e
    cases k1 <;> simpa [isAny] using e
  subst this
  exact ⟨Z, F1, R1, m1, x, v, k1, rfl, s1, r1, ek, q1.here s1 (.bl _)⟩
theorem e_isiN (cf : ClF G X.K) {a : Expr} {ces : List Expr} {a' : E} {ty : TyR} {tys : List TyR} {p pos tp : Pos} {x1} (hg : Gl X "isinstance") (hm : X.mg "isinstance" = none) (ha : PE X a (tE G n X Wx a')) (hc : PA X ces (tCs ((ty :: tys).map (clsV G.C))))
    (he : starEach [a, .Tuple ces x1 tp] X.env = (false, eval a X.env) :: starEach [.Tuple ces x1 tp] X.env := by rfl) (hs2 : starEach [.Tuple ces x1 tp] X.env = (false, eval (.Tuple ces x1 tp) X.env) :: starEach [] X.env := by rfl)
    (hpl : (backTo pos (starEach [.Tuple ces x1 tp] X.env)).any (·.1) = false := by rfl) (hl : tys.length < 1000 := by decide) : PE X (.Call (.Name "isinstance" p) [a, .Tuple ces x1 tp] [] pos) (tE G n X Wx (.isi a' (ty :: tys))) := by
  refine ⟨fun pins s σ H Q I ⟨Z, F, R, sl, m, h1, h2, h3⟩ => ?_⟩
  refine (pe_callB (call_isN (G := G) cf ty tys) hg hm (by rfl) (pa_cons ha (pa_cons (pe_tup hc) pa_nil hs2) he) (he := he) (hpl := hpl)).run pins s σ H Q I ⟨Z, F, R, sl, m, h1, h2, ?_⟩
  unfold evE at h3
  refine (EPo.bind (rel := Rel (G.W X)) h3).imp ?_
  rintro v H1 ⟨x, m1, F1, R1, _, l1, s1, r1, q1⟩
  obtain ⟨b, e0, q1⟩ := ofOpt_of q1
  obtain ⟨k, e, rfl⟩ := map_of e0
  refine ⟨by rw [sizeLine_eq, List.length_map, List.length_cons]; omega, fun q hq => ?_⟩
  obtain ⟨s2, l2⟩ := s1.new (o := .tup ((ty :: tys).map (clsV G.C))) hq
  exact ⟨Z, _, R1, m1, x, v, k, q, rfl, upd_same, s2, r1.mono l2, e, q1 _ _ _ _ l2 s2 (.bl _)⟩
end
end Pv

set_option Elab.async false
set_option linter.all false
set_option autoImplicit false
set_option maxRecDepth 100000
set_option maxHeartbeats 1000000
/-! PvF: == and !=, truth, fields. -/
namespace Pv
open PySem PySem.Spec PyProof.Rows L2
section
variable {G : Gd} {n : Nat} {X : Cx} {Wx : WX} {σ : L2.St} {H : Hp} {Q : VK} {Z F : Hp} {R : List Addr} {m : Mu}
theorem EPo.sig {α β : Type} {W : Wl} {rel : Hp → List Addr → α → β → Prop} {Q : β → Hp → Prop} {r : Res α} (h : EPo W Z rel F R σ Q Wx r) : EPo W Z rel F R [] Q (fun c d _ H => Wx c d σ H) r := by
  cases r <;> exact h
theorem run_len {P : Pr} {n f : Nat} {as : List D} {m : Mu} {d : Df} {α : Type} {W : Wl} {rel : Hp → List Addr → D → α → Prop} {Q : α → Hp → Prop} (hf : P.df f = some d) (h : EPo W Z rel F R σ Q Wx (run P n f as m)) : as.length = d.ps.length := by
  cases n with
  | zero => exact h.elim
  | succ n =>
    unfold run at h
    simp only [hf] at h
    by_cases e : as.length = d.ps.length
    · exact e
    · rw [if_neg e] at h; exact h.elim
/-- a def runs -/
theorem run_df (C : Cn G n X Wx) {p : List (Addr × Obj)} {s : Shared} {f : Nat} {d : Df} {as : List D} {vs : List V} {us : List Value} (hf : G.P.df f = some d) (hb : BindsTo s (G.fd f) ⟨us, []⟩ ((G.pn f).zip us)) (I : Inv X p σ H s) (h1 : SR (G.W X) Z F R m H)
    (r : Rels (G.W X) F R as vs) (ru : Vals vs us) (h : EPo (G.W X) Z (Rel (G.W X)) F R σ Q Wx (run G.P n f as m)) : wpAny (model X.prog X.w) X.A (call (.ref (G.fa f)) us) (EP X p σ Q) X.xe s := by
  have hl : vs.length = (G.pn f).length := by rw [C.pnl f d hf, ← run_len hf h, r.length]
  refine wpAny_call (codeAny_mono ((C.fns f d hf).run X.A X.stack s H ⟨us, []⟩ us vs Q (WE Wx σ) (C.rm.mono (by omega)) I.env0 hb ru ⟨hl, Z, F, R, as, m, h1, r, h.sig⟩) fun r s' hq => ?_)
  cases r with
  | error e => exact passAt C.tk σ p H s e s' I hq
  | ok fl =>
    cases fl with
    | ret u => exact I.after hq
    | next => exact False.elim hq
    | brk => exact False.elim hq
    | cont => exact False.elim hq
theorem run_dfI (C : Cn G n X Wx) {p : List (Addr × Obj)} {s : Shared} {f : Nat} {d : Df} {as : List D} {vs : List V} {us : List Value} (hf : G.P.df f = some d) (hb : BindsTo s (G.fd f) ⟨us, []⟩ ((G.pn f).zip us)) (I : Inv X p σ H s) (h1 : SR (G.W X) Z F R m H)
    (r : Rels (G.W X) F R as vs) (ru : Vals vs us) (h : EPo (G.W X) Z (Rel (G.W X)) F R σ Q Wx (run G.P n f as m)) : wpAny (model X.prog X.w) X.A.in1 (call (.ref (G.fa f)) us) (EP X p σ Q) X.xe s := by
  have hl : vs.length = (G.pn f).length := by rw [C.pnl f d hf, ← run_len hf h, r.length]
  refine wpAny_call (codeAny_mono ((C.fns f d hf).run X.A.in1 X.stack s H ⟨us, []⟩ us vs Q (WE Wx σ) (C.rm.in1.mono (by omega)) I.env0.in1 hb ru ⟨hl, Z, F, R, as, m, h1, r, h.sig⟩) fun r s' hq => ?_)
  cases r with
  | error e => exact passAt C.tk σ p H s e s' I hq
  | ok fl =>
    cases fl with
    | ret u => exact I.after hq
    | next => exact False.elim hq
    | brk => exact False.elim hq
    | cont => exact False.elim hq
/-- what an own == may be asked with -/
theorem eqOk_type (cf : ClF G X.K) {p : List (Addr × Obj)} {s : Shared} (I : Inv X p σ H s) (h1 : SR (G.W X) Z F R m H) {c : Nat} (hc : G.P.cls c = true) {d : D} {v : V} {u : Value} (r : Rel (G.W X) F R d v) (ru : RelV v u) (e : eqOk c (dr m d) = true) :
    ∃ tb, PySem.W.Looks (model X.prog X.w) s.heap (typeOf u) tb ∧ PySem.W.notFirst X.K (G.C c) tb = true := by
  unfold eqOk at e
  cases e1 : tyN (dr m d) with
  | some T =>
    obtain ⟨P, k1, k2, k3⟩ := kit_of I ru (ty_of h1 r e1)
    exact ⟨_, k1.ty _ _ I.kIn k2, (cf.tyB c (by rw [hc]; rfl) T (tyN_all e1)).2⟩
  | none =>
    rw [e1] at e
    cases e2 : dr m d <;> rw [e2] at e <;> simp at e
    subst e
    obtain ⟨a, dx, gs, rfl, ha, _⟩ := r.ins_of h1 e2
    cases ru
    obtain ⟨mA, J, _⟩ := ins_get I.hok ha
    obtain ⟨od, J, _⟩ := J.look
    exact ⟨_, J.type, by simp [PySem.W.notFirst]⟩
theorem Vals2 {a b : V} {u v : Value} (h : RelV a u) (k : RelV b v) : Vals [a, b] [u, v] := .cons h (.cons k .nil)
theorem o_eq (C : Cn G n X Wx) (cf : ClF G X.K) : OpS G X Wx (compareOp .Eq) fun x y m => cmpD G.P (run G.P n) .eq x y m := by
  intro p s σ Z F R m H x y u v uu vv Q I h1 rx ry ru rv h3
  replace h3 : EPo (G.W X) Z (Rel (G.W X)) F R σ Q Wx (eqI G.P (run G.P n) false x y m) := h3
  have un := units60 C
  unfold eqI at h3
  split at h3
  · rename_i c fs e1
    split at h3
    · rename_i f hf
      obtain ⟨hc, ec, d, hd⟩ := cf.eqm c f hf
      have hb := (cf.df f d hd).2
      split at h3
      · rename_i ok
        obtain ⟨tb, LT, hn⟩ := eqOk_type cf I h1 hc ry rv ok
        obtain ⟨a, dx, gs, rfl, ha, _⟩ := rx.ins_of h1 e1
        cases ru
        obtain ⟨mA, J, _⟩ := ins_get I.hok ha
        obtain ⟨od, J, _⟩ := J.look
        obtain ⟨mm, hF⟩ := I.fr
        refine PySem.W.cmp_K (op := .Eq) (tb := tb) (by omega) hF I.ok.mod.kin J LT hn ec.eq ec.fn ?_
        have hlen : (2 : Nat) = (G.pn f).length := by rw [C.pnl f d hd, ← run_len hd (EPo.bind (rel := Rel (G.W X)) h3)]; rfl
        refine wpAny_mono (run_df C hd (by simpa using hb s [.ref a, vv] I.kIn (by simpa using hlen)) I h1 (.cons rx (.cons ry .nil)) (Vals2 rfl rv) (EPo.bind (rel := Rel (G.W X)) h3)) (fun w s' hw => ?_) fun _ _ e => e
        obtain ⟨v', H', I', rw_, r, m2, F2, R2, _, l2, s2, rr, q2⟩ := hw
        cases r <;> simp only at q2 <;> first | exact q2.elim | skip
        cases rr
        cases rw_
        exact ⟨.bl _, H', I', rfl, q2.here s2 (.bl _)⟩
      · exact h3.elim
    · exact h3.elim
  · split at h3
    · exact h3.elim
    · obtain ⟨a, e0, h3⟩ := ofOpt_of h3
      obtain ⟨k, e, rfl⟩ := map_of e0
      unfold eqD at e
      split at e
      · rename_i pd qd e1 e2
        cases e
        obtain ⟨⟨_, r1⟩, p1, d1⟩ := reads_of I h1 60 _ _ _ _ rx ru e1
        obtain ⟨⟨_, r2⟩, p2, d2⟩ := reads_of I h1 60 _ _ _ _ ry rv e2
        exact SeqAt.eq_plain r1 r2 p1 p2 (by omega) ⟨.bl _, H, I, rfl, h3.here h1 (.bl _)⟩
      · cases e
theorem o_ne (C : Cn G n X Wx) (cf : ClF G X.K) : OpS G X Wx (compareOp .NotEq) fun x y m => cmpD G.P (run G.P n) .ne x y m := by
  intro p s σ Z F R m H x y u v uu vv Q I h1 rx ry ru rv h3
  replace h3 : EPo (G.W X) Z (Rel (G.W X)) F R σ Q Wx (eqI G.P (run G.P n) true x y m) := h3
  have un := units60 C
  unfold eqI at h3
  split at h3
  · rename_i c fs e1
    split at h3
    · rename_i f hf
      obtain ⟨hc, ec, d, hd⟩ := cf.eqm c f hf
      have hb := (cf.df f d hd).2
      split at h3
      · rename_i ok
        obtain ⟨tb, LT, hn⟩ := eqOk_type cf I h1 hc ry rv ok
        obtain ⟨a, dx, gs, rfl, ha, _⟩ := rx.ins_of h1 e1
        cases ru
        obtain ⟨mA, J, _⟩ := ins_get I.hok ha
        obtain ⟨od, J, _⟩ := J.look
        refine PySem.W.ne_K (tb := tb) (by omega) I.kIn J LT hn ec.ne (cf.cl c hc).hm ec.eq ec.fn (PySem.F.cmpArgs_ne _ _) ?_
        have hlen : (2 : Nat) = (G.pn f).length := by rw [C.pnl f d hd, ← run_len hd (EPo.bind (rel := Rel (G.W X)) h3)]; rfl
        refine wpAny_mono (run_dfI C hd (by simpa using hb s [.ref a, vv] I.kIn (by simpa using hlen)) I h1 (.cons rx (.cons ry .nil)) (Vals2 rfl rv) (EPo.bind (rel := Rel (G.W X)) h3)) (fun w s' hw => ?_) fun _ _ e => e
        obtain ⟨v', H', I', rw_, r, m2, F2, R2, _, l2, s2, rr, q2⟩ := hw
        cases r <;> simp only at q2 <;> first | exact q2.elim | skip
        cases rr
        cases rw_
        exact ⟨_, rfl, .bl _, H', I', rfl, q2.here s2 (.bl _)⟩
      · exact h3.elim
    · exact h3.elim
  · split at h3
    · exact h3.elim
    · obtain ⟨a, e0, h3⟩ := ofOpt_of h3
      obtain ⟨k, e, rfl⟩ := map_of (o := eqD m x y) (f := fun k => D.bl (!k)) e0
      unfold eqD at e
      split at e
      · rename_i pd qd e1 e2
        cases e
        obtain ⟨⟨_, r1⟩, p1, d1⟩ := reads_of I h1 60 _ _ _ _ rx ru e1
        obtain ⟨⟨_, r2⟩, p2, d2⟩ := reads_of I h1 60 _ _ _ _ ry rv e2
        exact SeqAt.ne_plain r1 r2 p1 p2 (by omega) ⟨.bl _, H, I, rfl, h3.here h1 (.bl _)⟩
      · cases e

/-! ### tests -/
/-- an expression that is asked by its value's truth -/
theorem t_val {e : Expr} {a : E} (he : PE X e (tE G n X Wx a)) (hp : ∀ whole, isTrue e X.env whole = (do let v ← whole; standAt e.pos; holding [v] (truthy v)) := by intro _; rfl)
    (hb : ∀ c, G.P.boolm c = none := by intro _; rfl) : PT X e (tT G n X Wx a) := by
  refine ⟨fun p s σ H Q I ⟨Z, F, R, sl, m, h1, h2, h3⟩ => ?_⟩
  refine (pt_truth he hp).run p s σ H Q I ⟨Z, F, R, sl, m, h1, h2, ?_⟩
  refine (EPo.bind (rel := Rel (G.W X)) h3).imp ?_
  rintro v H1 ⟨x, m1, F1, R1, _, l1, s1, r1, q1⟩
  unfold truI at q1
  split at q1
  · rw [hb] at q1; exact q1.elim
  · obtain ⟨k, e, q1⟩ := ofOpt_of q1
    exact ⟨k, tru_of s1 r1 e, q1 F1 R1 H1 k Le.refl s1 rfl⟩
/-- cmpD answers by True or False -/
theorem cmpD_bl {P : Pr} {call : Cal} {o : Cm} {x y : D} {m m2 : Mu} {d : D} (h : cmpD P call o x y m = .ok d m2) : ∃ b, d = .bl b := by
  have hI : ∀ {neg : Bool}, eqI P call neg x y m = .ok d m2 → ∃ b, d = .bl b := by
    intro neg h
    unfold eqI at h
    split at h
    · split at h
      · split at h
        · rename_i f _ _
          cases e : call f [x, y] m with
          | ok a m3 =>
            rw [e] at h
            simp only [Res.bind_ok] at h
            cases a <;> simp at h <;> exact ⟨_, h.1.symm⟩
          | exc => rw [e] at h; simp at h
          | stuck => rw [e] at h; simp at h
        · cases h
      · cases h
    · split at h
      · cases h
      · cases e : eqD m x y with
        | none => rw [e] at h; cases h
        | some k => rw [e] at h; cases h; exact ⟨_, rfl⟩
  have hL : ∀ {f : Int → Int → Bool}, ltD m x y f = .ok d m2 → ∃ b, d = .bl b := by
    intro f h
    unfold ltD at h
    split at h
    · cases h; exact ⟨_, rfl⟩
    · cases h
  have hS : ∀ {neg : Bool}, isD m neg x y = .ok d m2 → ∃ b, d = .bl b := by
    intro neg h
    unfold isD at h
    split at h
    · cases h; exact ⟨_, rfl⟩
    · cases h; exact ⟨_, rfl⟩
    · cases h
  have hN : ∀ {neg : Bool}, inD m neg x y = .ok d m2 → ∃ b, d = .bl b := by
    intro neg h
    unfold inD at h
    cases e : anyD m x y with
    | none => rw [e] at h; cases h
    | some k => rw [e] at h; cases h; exact ⟨_, rfl⟩
  cases o
  · exact hI h
  · exact hI h
  · exact hL h
  · exact hL h
  · exact hL h
  · exact hL h
  · exact hS h
  · exact hS h
  · exact hN h
  · exact hN h
/-- a comparison -/
theorem t_cmp {a b : Expr} {a' b' : E} {op : CmpOp} {o : Cm} {pos : Pos} (ho : OpS G X Wx (compareOp op) fun x y m => cmpD G.P (run G.P n) o x y m) (ha : PE X a (tE G n X Wx a')) (hb : PE X b (tE G n X Wx b'))
    (hm : behindInMarks op b = false) : PT X (.Compare a [op] [b] pos) (tT G n X Wx (.cmp a' o b')) := by
  refine ⟨fun p s σ H Q I ⟨Z, F, R, sl, m, h1, h2, h3⟩ => ?_⟩
  refine (pt_cmp (t := tE G n X Wx (.cmp a' o b')) ⟨fun p s σ H Q I ⟨Z, F, R, sl, m, h1, h2, h3⟩ => by unfold evE at h3; exact e_two ho ha hb I h1 h2 h3⟩ hm).run p s σ H Q I ⟨Z, F, R, sl, m, h1, h2, ?_⟩
  unfold evTr at h3
  unfold evE at h3 ⊢
  have key : ∀ {r : Res D}, (∀ d m, r = .ok d m → ∃ b, d = .bl b) → EPo (G.W X) Z relB F R σ Q Wx (r.bind fun x m => truI G.P (run G.P n) x m) →
      EPo (G.W X) Z (Rel (G.W X)) F R σ (fun x H1 => ∃ c, x = .bl c ∧ Q c H1) Wx r := by
    intro r hr h
    refine (EPo.bind (rel := Rel (G.W X)) h).imp ?_
    rintro v H1 ⟨x, m1, F1, R1, e, l1, s1, r1, q1⟩
    obtain ⟨b, rfl⟩ := hr _ _ e
    cases r1
    exact ⟨b, rfl, q1 F1 R1 H1 b Le.refl s1 rfl⟩
  refine key (fun d m2 e => ?_) h3
  cases e1 : evE G.P (run G.P n) a' sl m with
  | ok x m1 =>
    rw [e1] at e
    simp only [Res.bind_ok] at e
    cases e2 : evE G.P (run G.P n) b' sl m1 with
    | ok y m2 => rw [e2] at e; exact cmpD_bl e
    | exc => rw [e2] at e; simp at e
    | stuck => rw [e2] at e; simp at e
  | exc => rw [e1] at e; simp at e
  | stuck => rw [e1] at e; simp at e
end
end Pv

set_option Elab.async false
set_option linter.all false
set_option autoImplicit false
set_option maxRecDepth 100000
set_option maxHeartbeats 1000000
/-! PvG: and, or, not, if; displays; items. -/
namespace Pv
open PySem PySem.Spec PyProof.Rows L2
section
variable {G : Gd} {n : Nat} {X : Cx} {Wx : WX} {σ : L2.St} {H : Hp} {Q : VK} {Z F : Hp} {R : List Addr} {m : Mu}
theorem truI_of {P : Pr} {call : Cal} {m : Mu} {x : D} {k : Bool} (h : tru m x = some k) : truI P call x m = .ok k m := by
  unfold truI
  split
  · rename_i c fs e
    unfold tru at h
    rw [e] at h
    cases h
  · rw [h]; rfl
/-- and -/
theorem w_and {a b : Expr} {rest : List Expr} {a' b' : E} {pos : Pos} (ha : PT X a (tT G n X Wx a')) (hb : PW X (.BoolOp .And (b :: rest) pos) (tT G n X Wx b')) : PW X (.BoolOp .And (a :: b :: rest) pos) (tT G n X Wx (.and a' b')) := by
  refine ⟨fun wh p s σ H Q I ⟨Z, F, R, sl, m, h1, h2, h3⟩ => ?_⟩
  refine (pw_and ha hb).run wh p s σ H Q I ⟨Z, F, R, sl, m, h1, h2, ?_⟩
  unfold evTr at h3 ⊢
  unfold evE at h3
  cases e1 : evE G.P (run G.P n) a' sl m with
  | ok x m1 =>
    rw [e1] at h3
    simp only [Res.bind_ok] at h3 ⊢
    cases e2 : tru m1 x with
    | none => rw [e2] at h3; exact h3.elim
    | some k =>
      rw [truI_of e2]
      rw [e2] at h3
      simp only [Res.ofOpt_some, Res.bind_ok] at h3
      rintro F2 R2 H2 v l2 s2 rfl
      cases k with
      | true =>
        rw [if_pos rfl] at h3 ⊢
        exact ⟨Z, F2, R2, sl, m1, s2, h2.mono l2, h3.le l2⟩
      | false =>
        rw [if_neg (by decide)] at h3 ⊢
        simp only [Res.bind_ok] at h3
        rw [truI_of e2] at h3
        exact h3 F2 R2 H2 false l2 s2 rfl
  | exc c fs m1 => rw [e1] at h3; exact h3
  | stuck => rw [e1] at h3; exact h3.elim
theorem w_or {a b : Expr} {rest : List Expr} {a' b' : E} {pos : Pos} (ha : PT X a (tT G n X Wx a')) (hb : PW X (.BoolOp .Or (b :: rest) pos) (tT G n X Wx b')) : PW X (.BoolOp .Or (a :: b :: rest) pos) (tT G n X Wx (.or a' b')) := by
  refine ⟨fun wh p s σ H Q I ⟨Z, F, R, sl, m, h1, h2, h3⟩ => ?_⟩
  refine (pw_or ha hb).run wh p s σ H Q I ⟨Z, F, R, sl, m, h1, h2, ?_⟩
  unfold evTr at h3 ⊢
  unfold evE at h3
  cases e1 : evE G.P (run G.P n) a' sl m with
  | ok x m1 =>
    rw [e1] at h3
    simp only [Res.bind_ok] at h3 ⊢
    cases e2 : tru m1 x with
    | none => rw [e2] at h3; exact h3.elim
    | some k =>
      rw [truI_of e2]
      rw [e2] at h3
      simp only [Res.ofOpt_some, Res.bind_ok] at h3
      rintro F2 R2 H2 v l2 s2 rfl
      cases k with
      | true =>
        rw [if_pos rfl] at h3 ⊢
        simp only [Res.bind_ok] at h3
        rw [truI_of e2] at h3
        exact h3 F2 R2 H2 true l2 s2 rfl
      | false =>
        rw [if_neg (by decide)] at h3 ⊢
        exact ⟨Z, F2, R2, sl, m1, s2, h2.mono l2, h3.le l2⟩
  | exc c fs m1 => rw [e1] at h3; exact h3
  | stuck => rw [e1] at h3; exact h3.elim
theorem w_one {a : Expr} {a' : E} {pos : Pos} (ha : PT X a (tT G n X Wx a')) : PW X (.BoolOp .And [a] pos) (tT G n X Wx a') := pw_and1 ha
theorem w_one' {a : Expr} {a' : E} {pos : Pos} (ha : PT X a (tT G n X Wx a')) : PW X (.BoolOp .Or [a] pos) (tT G n X Wx a') := pw_or1 ha
theorem t_not {a : Expr} {a' : E} {pos : Pos} (ha : PT X a (tT G n X Wx a')) : PT X (.UnaryOp .Not a pos) (tT G n X Wx (.not a')) := by
  refine ⟨fun p s σ H Q I ⟨Z, F, R, sl, m, h1, h2, h3⟩ => ?_⟩
  refine (pt_not ha).run p s σ H Q I ⟨Z, F, R, sl, m, h1, h2, ?_⟩
  unfold evTr at h3 ⊢
  unfold evE at h3
  cases e1 : evE G.P (run G.P n) a' sl m with
  | ok x m1 =>
    rw [e1] at h3
    simp only [Res.bind_ok] at h3 ⊢
    cases e2 : truI G.P (run G.P n) x m1 with
    | ok k m2 =>
      rw [e2] at h3
      rintro F2 R2 H2 v l2 s2 rfl
      exact h3 F2 R2 H2 (!k) l2 s2 rfl
    | exc c fs m1 => rw [e2] at h3; exact h3
    | stuck => rw [e2] at h3; exact h3.elim
  | exc c fs m1 => rw [e1] at h3; exact h3
  | stuck => rw [e1] at h3; exact h3.elim
theorem e_not {a : Expr} {a' : E} {pos : Pos} (ha : PE X a (tE G n X Wx a')) (hb : ∀ c, G.P.boolm c = none := by intro _; rfl) : PE X (.UnaryOp .Not a pos) (tE G n X Wx (.not a')) := by
  refine ⟨fun p s σ H Q I ⟨Z, F, R, sl, m, h1, h2, h3⟩ => ?_⟩
  refine (pe_notT ha).run p s σ H Q I ⟨Z, F, R, sl, m, h1, h2, ?_⟩
  unfold evE at h3
  refine (EPo.bind (rel := Rel (G.W X)) h3).imp ?_
  rintro v H1 ⟨x, m1, F1, R1, _, l1, s1, r1, q1⟩
  unfold truI at q1
  split at q1
  · rw [hb] at q1; exact q1.elim
  · cases e : tru m1 x with
    | none => rw [e] at q1; exact q1.elim
    | some k => rw [e] at q1; exact ⟨k, tru_of s1 r1 e, q1.here s1 (.bl _)⟩
theorem e_and {a b : Expr} {rest : List Expr} {a' b' : E} {pos : Pos} (ha : PE X a (tE G n X Wx a')) (hb : PE X (.BoolOp .And (b :: rest) pos) (tE G n X Wx b')) : PE X (.BoolOp .And (a :: b :: rest) pos) (tE G n X Wx (.and a' b')) := by
  refine ⟨fun p s σ H Q I ⟨Z, F, R, sl, m, h1, h2, h3⟩ => ?_⟩
  refine (pe_andT ha hb).run p s σ H Q I ⟨Z, F, R, sl, m, h1, h2, ?_⟩
  unfold evE at h3
  refine (EPo.bind (rel := Rel (G.W X)) h3).imp ?_
  rintro v H1 ⟨x, m1, F1, R1, _, l1, s1, r1, q1⟩
  cases e : tru m1 x with
  | none => rw [e] at q1; exact q1.elim
  | some k =>
    rw [e] at q1
    refine ⟨k, tru_of s1 r1 e, ?_⟩
    cases k with
    | true => exact ⟨Z, F1, R1, sl, m1, s1, h2.mono l1, q1⟩
    | false => exact q1.here s1 r1
theorem e_or {a b : Expr} {rest : List Expr} {a' b' : E} {pos : Pos} (ha : PE X a (tE G n X Wx a')) (hb : PE X (.BoolOp .Or (b :: rest) pos) (tE G n X Wx b')) : PE X (.BoolOp .Or (a :: b :: rest) pos) (tE G n X Wx (.or a' b')) := by
  refine ⟨fun p s σ H Q I ⟨Z, F, R, sl, m, h1, h2, h3⟩ => ?_⟩
  refine (pe_orT ha hb).run p s σ H Q I ⟨Z, F, R, sl, m, h1, h2, ?_⟩
  unfold evE at h3
  refine (EPo.bind (rel := Rel (G.W X)) h3).imp ?_
  rintro v H1 ⟨x, m1, F1, R1, _, l1, s1, r1, q1⟩
  cases e : tru m1 x with
  | none => rw [e] at q1; exact q1.elim
  | some k =>
    rw [e] at q1
    refine ⟨k, tru_of s1 r1 e, ?_⟩
    cases k with
    | true => exact q1.here s1 r1
    | false => exact ⟨Z, F1, R1, sl, m1, s1, h2.mono l1, q1⟩
theorem e_one {op} {a : Expr} {a' : E} {pos : Pos} (ha : PE X a (tE G n X Wx a')) : PE X (.BoolOp op [a] pos) (tE G n X Wx a') := pe_one ha
/-- a if c else b -/
theorem e_ite {a b c : Expr} {a' b' c' : E} {pos : Pos} (hc : PT X c (tT G n X Wx c')) (ha : PE X a (tE G n X Wx a')) (hb : PE X b (tE G n X Wx b')) : PE X (.IfExp c a b pos) (tE G n X Wx (.ite c' a' b')) := by
  refine ⟨fun p s σ H Q I ⟨Z, F, R, sl, m, h1, h2, h3⟩ => ?_⟩
  refine (pe_ifExp hc ha hb).run p s σ H Q I ⟨Z, F, R, sl, m, h1, h2, ?_⟩
  unfold evE at h3
  unfold evTr
  cases e1 : evE G.P (run G.P n) c' sl m with
  | ok x m1 =>
    rw [e1] at h3
    simp only [Res.bind_ok] at h3 ⊢
    refine (EPo.bind (rel := relB) h3).imp ?_
    rintro v H1 ⟨k, m2, F2, R2, _, l2, s2, rfl, q2⟩
    cases k with
    | true => exact ⟨Z, F2, R2, sl, m2, s2, h2.mono l2, q2⟩
    | false => exact ⟨Z, F2, R2, sl, m2, s2, h2.mono l2, q2⟩
  | exc c fs m1 => rw [e1] at h3; exact h3
  | stuck => rw [e1] at h3; exact h3.elim

/-! ### argument lists, displays -/
theorem l_nil : PA X [] (tL G n X Wx []) :=
  ⟨fun pos p s σ H Q I ⟨Z, F, R, sl, m, h1, h2, h3⟩ => pa_nil.run pos p s σ H Q I (h3 F R H [] Le.refl h1 .nil)⟩
theorem l_cons {e : Expr} {es : List Expr} {a : E} {as : List E} (ha : PE X e (tE G n X Wx a)) (hr : PA X es (tL G n X Wx as)) (hs : starEach (e :: es) X.env = (false, eval e X.env) :: starEach es X.env := by rfl) : PA X (e :: es) (tL G n X Wx (a :: as)) := by
  refine ⟨fun pos p s σ H Q I ⟨Z, F, R, sl, m, h1, h2, h3⟩ => ?_⟩
  refine (pa_cons ha hr hs).run pos p s σ H Q I ⟨Z, F, R, sl, m, h1, h2, ?_⟩
  unfold evL at h3
  refine (EPo.bind (rel := Rel (G.W X)) h3).imp ?_
  rintro v H1 ⟨x, m1, F1, R1, _, l1, s1, r1, q1⟩
  refine ⟨Z, F1, R1, sl, m1, s1, h2.mono l1, (EPo.bind (rel := Rels (G.W X)) q1).imp ?_⟩
  rintro vs H2 ⟨xs, m2, F2, R2, _, l2, s2, r2, q2⟩
  exact q2 F2 R2 H2 (v :: vs) Le.refl s2 (.cons (r1.mono l2) r2)
/-- behind an argument list -/
theorem tL_to {as : List E} {Z F : Hp} {R : List Addr} {sl : Sl} {m : Mu} (h1 : SR (G.W X) Z F R m H) (h2 : RS' (G.W X) F R sl σ) {k : List D → Mu → Res D} {Qa : List V → Hp → Prop}
    (h3 : EPo (G.W X) Z (Rel (G.W X)) F R σ Q Wx ((evL G.P (run G.P n) as sl m).bind k))
    (h : ∀ vs H1 xs m1 F1 R1, Le F R F1 R1 → SR (G.W X) Z F1 R1 m1 H1 → Rels (G.W X) F1 R1 xs vs → EPo (G.W X) Z (Rel (G.W X)) F1 R1 σ Q Wx (k xs m1) → Qa vs H1) : tL G n X Wx as σ H Qa :=
  ⟨Z, F, R, sl, m, h1, h2, (EPo.bind (rel := Rels (G.W X)) h3).imp fun vs H1 ⟨xs, m1, F1, R1, _, l1, s1, r1, q1⟩ => h vs H1 xs m1 F1 R1 l1 s1 r1 q1⟩
theorem tE_to {a : E} {Z F : Hp} {R : List Addr} {sl : Sl} {m : Mu} (h1 : SR (G.W X) Z F R m H) (h2 : RS' (G.W X) F R sl σ) {k : D → Mu → Res D} {Qa : V → Hp → Prop}
    (h3 : EPo (G.W X) Z (Rel (G.W X)) F R σ Q Wx ((evE G.P (run G.P n) a sl m).bind k))
    (h : ∀ v H1 x m1 F1 R1, Le F R F1 R1 → SR (G.W X) Z F1 R1 m1 H1 → Rel (G.W X) F1 R1 x v → EPo (G.W X) Z (Rel (G.W X)) F1 R1 σ Q Wx (k x m1) → Qa v H1) : tE G n X Wx a σ H Qa :=
  ⟨Z, F, R, sl, m, h1, h2, (EPo.bind (rel := Rel (G.W X)) h3).imp fun v H1 ⟨x, m1, F1, R1, _, l1, s1, r1, q1⟩ => h v H1 x m1 F1 R1 l1 s1 r1 q1⟩
theorem e_tup {es : List Expr} {as : List E} {x1} {pos : Pos} (h : PA X es (tL G n X Wx as)) : PE X (.Tuple es x1 pos) (tE G n X Wx (.tup as)) := by
  refine ⟨fun p s σ H Q I ⟨Z, F, R, sl, m, h1, h2, h3⟩ => ?_⟩
  unfold evE at h3
  refine (pe_tup h).run p s σ H Q I (tL_to h1 h2 h3 fun vs H1 xs m1 F1 R1 l1 s1 r1 q1 => ?_)
  obtain ⟨hz, q1⟩ := when_of q1
  exact ⟨by rw [← r1.length]; exact big_le hz, EPo.newT q1 s1 r1⟩
theorem e_lst {es : List Expr} {as : List E} {k : Bool} {pos : Pos} (h : PA X es (tL G n X Wx as)) : PE X (.List es pos) (tE G n X Wx (.lst k as)) := by
  refine ⟨fun p s σ H Q I ⟨Z, F, R, sl, m, h1, h2, h3⟩ => ?_⟩
  unfold evE at h3
  refine (pe_lst h).run p s σ H Q I (tL_to h1 h2 h3 fun vs H1 xs m1 F1 R1 l1 s1 r1 q1 => ?_)
  obtain ⟨hz, q1⟩ := when_of q1
  exact ⟨by rw [← r1.length]; exact big_le hz, EPo.mkL q1 s1 r1⟩
theorem e_dic0 {pos : Pos} : PE X (.Dict [] [] pos) (tE G n X Wx .dic0) := by
  refine ⟨fun p s σ H Q I ⟨Z, F, R, sl, m, h1, h2, h3⟩ => pe_dnewK.run p s σ H Q I fun q hq => ?_⟩
  unfold evE at h3
  obtain ⟨s2, l2⟩ := h1.new (o := .dK []) hq
  exact h3 _ _ _ _ l2 s2 (.dk upd_same)
/-- names of the top -/
theorem e_glo {k : Nat} {x : Str} {v : V} {u : Value} {pos : Pos} (hg : Gl X x) (hm : X.mg x = some u) (ru : RelV v u) (hr : ∀ d, G.P.glob k = some d → ∀ F R, Rel (G.W X) F R d v) (hd : (x == ("__debug__" : Str)) = false := by decide) : PE X (.Name x pos) (tE G n X Wx (.glo k)) := by
  refine ⟨fun p s σ H Q I ⟨Z, F, R, sl, m, h1, h2, h3⟩ => ?_⟩
  unfold evE at h3
  obtain ⟨d, e, h3⟩ := ofOpt_of h3
  exact (pe_glob hg hm ru hd).run p s σ H Q I (h3.here h1 (hr d e F R))

/-! ### items, slices -/
theorem ixAt_eq (k : Nat) (i : Int) : ixAt k i = ixN k i := by
  unfold ixAt ixN
  by_cases h : 0 ≤ i
  · rw [if_pos h, if_pos h]
    by_cases h2 : i.toNat < k
    · rw [if_pos h2, if_pos (by omega)]
    · rw [if_neg h2, if_neg (by omega)]
  · rw [if_neg h, if_neg h]
    by_cases h2 : 0 ≤ i + k
    · rw [if_pos h2, if_pos (by omega)]
    · rw [if_neg h2, if_neg (by omega)]
theorem ixD_of {xs : List D} {vs : List V} {i : Int} {d : D} {W : Wl} (r : Rels W F R xs vs) (e : ixD xs i = some d) : ∃ v, atI vs i = some v ∧ Rel W F R d v := by
  unfold ixD at e
  obtain ⟨k, e1, e2⟩ := Option.bind_eq_some_iff.mp e
  obtain ⟨v, e3, rv⟩ := r.get e2
  refine ⟨v, ?_, rv⟩
  unfold atI
  rw [← r.length, ← ixAt_eq, e1]
  exact e3
theorem Rel.scr_of {W : Wl} {d : D} {v : V} {ns : List Int} (h : SR W Z F R m H) (r : Rel W F R d v) (e : Pv.dr m d = .scr ns) : ∃ a, v = .ref a ∧ SqL W.K H a (ns.map .int) := by
  rcases r.dr h with ⟨_, q⟩ | ⟨j, a, o, u, rfl, ev, _, _, q, hu, ro⟩ | ⟨j, rfl, q⟩
  · rw [q] at e; subst e
    cases r with
    | scr ha => exact ⟨_, rfl, sqL_mono h.ex ha⟩
  · rw [q] at e; subst e; cases ro
  · rw [q] at e; cases e
theorem e_ix {a b : Expr} {a' b' : E} {pos : Pos} (ha : PE X a (tE G n X Wx a')) (hb : PE X b (tE G n X Wx b')) (hs : PlainIx b := by intro _ _; rfl) : PE X (.Subscript a b pos) (tE G n X Wx (.ix a' b')) := by
  refine ⟨fun p s σ H Q I ⟨Z, F, R, sl, m, h1, h2, h3⟩ => ?_⟩
  unfold evE at h3
  refine (pe_ix ix_seq ha hb hs).run p s σ H Q I (tE_to h1 h2 h3 fun v H1 x m1 F1 R1 l1 s1 r1 q1 => tE_to s1 (h2.mono l1) q1 fun u H2 y m2 F2 R2 l2 s2 r2 q2 => ?_)
  have r1' := r1.mono l2
  split at q2
  · rename_i xs j e1
    obtain ⟨d, e, q2⟩ := ofOpt_of q2
    obtain ⟨a, vs, rfl, hA, rA⟩ := r1'.tup_of s2 e1
    obtain ⟨v, e3, rv⟩ := ixD_of rA e
    cases r2
    exact .inr (.inl ⟨a, vs, j, v, rfl, rfl, hA, e3, q2.here s2 rv⟩)
  · rename_i xs j e1
    obtain ⟨d, e, q2⟩ := ofOpt_of q2
    obtain ⟨a, vs, rfl, hA, rA⟩ := r1'.lst_of s2 e1
    obtain ⟨v, e3, rv⟩ := ixD_of rA e
    cases r2
    exact .inl ⟨a, vs, j, v, rfl, rfl, SqL.of hA, e3, q2.here s2 rv⟩
  · rename_i ns j e1
    obtain ⟨d, e, q2⟩ := ofOpt_of q2
    obtain ⟨a, rfl, hA⟩ := r1'.scr_of s2 e1
    cases r2
    obtain ⟨k, e2, e3⟩ := Option.bind_eq_some_iff.mp e
    obtain ⟨i, e4, e5⟩ := map_of e3
    refine .inl ⟨a, _, j, .int i, rfl, rfl, hA, ?_, q2.here s2 (by subst e5; exact .int i)⟩
    unfold atI
    rw [List.length_map, ← ixAt_eq, e2]
    show (ns.map V.int)[k]? = _
    rw [List.getElem?_map, e4]; rfl
  · exact q2.elim
/-- a slice's part -/
def tOp (G : Gd) (n : Nat) (X : Cx) (Wx : WX) (o : Option E) : TO := fun σ H Q => ∃ Z F R s m, SR (G.W X) Z F R m H ∧ RS' (G.W X) F R s σ ∧ EPo (G.W X) Z (fun _ _ (a : Option Int) b => a = b) F R σ Q Wx (evO G.P (run G.P n) o s m)
theorem o_none : PO X none (tOp G n X Wx none) :=
  ⟨fun p s σ H Q I ⟨Z, F, R, sl, m, h1, h2, h3⟩ => po_none.run p s σ H Q I (h3 F R H none Le.refl h1 rfl)⟩
theorem o_some {e : Expr} {a : E} (he : PE X e (tE G n X Wx a)) : PO X (some e) (tOp G n X Wx (some a)) := by
  refine ⟨fun p s σ H Q I ⟨Z, F, R, sl, m, h1, h2, h3⟩ => ?_⟩
  refine (po_some he).run p s σ H Q I ⟨Z, F, R, sl, m, h1, h2, ?_⟩
  unfold evO at h3
  refine (EPo.bind (rel := Rel (G.W X)) h3).imp ?_
  rintro v H1 ⟨x, m1, F1, R1, _, l1, s1, r1, q1⟩
  cases x <;> simp only at q1 <;> first | exact q1.elim | skip
  cases r1
  exact ⟨_, rfl, q1 F1 R1 H1 _ Le.refl s1 rfl⟩
theorem clip_sIx (k d : Nat) (o : Option Int) : clip k d o = HT.sIx k d o := by
  cases o with
  | none => rfl
  | some i =>
    show (if 0 ≤ i then min i.toNat k else (i + k).toNat) = (if i < 0 then (i + (k : Int)).toNat else min i.toNat k)
    by_cases h : 0 ≤ i
    · rw [if_pos h, if_neg (by omega)]
    · rw [if_neg h, if_pos (by omega)]
theorem slice_cut {xs : List D} {vs : List V} {W : Wl} (r : Rels W F R xs vs) (lo hi : Option Int) : Rels W F R (slice xs lo hi) (cutV vs lo hi) := by
  unfold slice cutV
  rw [← r.length, clip_sIx, clip_sIx]
  exact (r.drop _).take _
theorem Rels.ints {W : Wl} : ∀ (ns : List Int), Rels W F R (ns.map .int) (ns.map .int)
  | [] => .nil
  | i :: r => .cons (.int i) (Rels.ints r)
theorem slice_map {α β : Type} (f : α → β) (xs : List α) (lo hi : Option Int) : (slice xs lo hi).map f = slice (xs.map f) lo hi := by
  unfold slice
  rw [List.map_take, List.map_drop, List.length_map]
def rSlAll (K : PySem.W.Frag) : V → Option Int → Option Int → Hp → VK → Prop := fun x lo hi H Q => rSlL K x lo hi H Q ∨ rSlA K x lo hi H Q
theorem e_slc {a : Expr} {a' : E} {lo hi : Option Expr} {l h : Option E} {p2 pos : Pos} (ha : PE X a (tE G n X Wx a')) (hl : PO X lo (tOp G n X Wx l)) (hh : PO X hi (tOp G n X Wx h)) : PE X (.Subscript a (.Slice lo hi none p2) pos) (tE G n X Wx (.slc a' l h)) := by
  refine ⟨fun p s σ H Q I ⟨Z, F, R, sl, m, h1, h2, h3⟩ => ?_⟩
  unfold evE at h3
  refine (pe_slice (SlR.or sl_list sl_tupA) ha hl hh).run p s σ H Q I (tE_to h1 h2 h3 fun v H1 x m1 F1 R1 l1 s1 r1 q1 => ?_)
  refine ⟨Z, F1, R1, sl, m1, s1, h2.mono l1, (EPo.bind (rel := fun _ _ (a : Option Int) b => a = b) q1).imp ?_⟩
  rintro lo H2 ⟨lo, m2, F2, R2, _, l2, s2, rfl, q2⟩
  refine ⟨Z, F2, R2, sl, m2, s2, h2.mono (l1.trans l2), (EPo.bind (rel := fun _ _ (a : Option Int) b => a = b) q2).imp ?_⟩
  rintro hi H3 ⟨hi, m3, F3, R3, _, l3, s3, rfl, q3⟩
  have r1' := r1.mono (l2.trans l3)
  split at q3
  · rename_i xs e1
    obtain ⟨a, vs, rfl, hA, rA⟩ := r1'.tup_of s3 e1
    refine .inr ⟨a, vs, rfl, hA, fun hw => ?_, fun _ => EPo.newT q3 s3 (slice_cut rA _ _)⟩
    have e : slice xs lo hi = xs := by
      unfold slice
      rw [clip_sIx, clip_sIx, rA.length, hw.1, hw.2, ← rA.length]
      simp
    rw [e] at q3
    exact q3.here s3 (r1'.whole s3 e1)
  · rename_i xs e1
    obtain ⟨a, vs, rfl, hA, rA⟩ := r1'.lst_of s3 e1
    exact .inl ⟨a, vs, rfl, SqL.of hA, EPo.newL q3 s3 (slice_cut rA _ _)⟩
  · rename_i ns e1
    obtain ⟨a, rfl, hA⟩ := r1'.scr_of s3 e1
    rw [slice_map] at q3
    exact .inl ⟨a, _, rfl, hA, EPo.newL q3 s3 (slice_cut (Rels.ints ns) _ _)⟩
  · exact q3.elim
theorem e_rev {a : Expr} {a' : E} {k : Nat} {p1 p2 p3 pos : Pos} (ha : PE X a (tE G n X Wx a')) : PE X (.Subscript a (.Slice none none (some (.UnaryOp .USub (.Constant (.int 1) k p1) p2)) p3) pos) (tE G n X Wx (.rev a')) := by
  refine ⟨fun p s σ H Q I ⟨Z, F, R, sl, m, h1, h2, h3⟩ => ?_⟩
  unfold evE at h3
  refine (pe_revL ha).run p s σ H Q I (tE_to h1 h2 h3 fun v H1 x m1 F1 R1 l1 s1 r1 q1 => ?_)
  split at q1
  · rename_i xs e1
    obtain ⟨a, vs, rfl, hA, rA⟩ := r1.lst_of s1 e1
    exact ⟨a, vs, rfl, SqL.of hA, EPo.newL q1 s1 rA.reverse⟩
  · exact q1.elim

/-! ### fields -/
theorem RelF.look {W : Wl} (inj : ∀ f g, W.nm f = W.nm g → f = g) {f : Nat} : ∀ {fs : List (Nat × D)} {gs : List (Str × V)}, RelF W F R fs gs →
    (fs.lookup f = none → gs.lookup (W.nm f) = none) ∧ ∀ d, fs.lookup f = some d → ∃ v, gs.lookup (W.nm f) = some v ∧ Rel W F R d v
  | _, _, .nil => ⟨fun _ => rfl, fun d e => by cases e⟩
  | _, _, .cons (f := g) (x := x) (v := v) r rs => by
    by_cases e : f = g
    · subst e
      refine ⟨fun h => ?_, fun d h => ?_⟩
      · simp [List.lookup] at h
      · simp [List.lookup] at h
        subst h
        exact ⟨v, by simp [List.lookup], r⟩
    · have e2 : (f == g) = false := by simpa using e
      have e3 : (W.nm f == W.nm g) = false := by
        simp only [beq_eq_false_iff_ne, ne_eq]
        exact fun z => e (inj _ _ z)
      have ih := RelF.look inj (f := f) rs
      simp only [List.lookup, e2, e3]
      exact ih
end
end Pv

set_option Elab.async false
set_option linter.all false
set_option autoImplicit false
set_option maxRecDepth 100000
set_option maxHeartbeats 1000000
/-! PvH: fields, calls. -/
namespace Pv
open PySem PySem.Spec PyProof.Rows L2
section
variable {G : Gd} {n : Nat} {X : Cx} {Wx : WX} {σ : L2.St} {H : Hp} {Q : VK} {Z F : Hp} {R : List Addr} {m : Mu}

/-! ### fields -/
theorem nox_of {α β : Type} {W : Wl} {rel : Hp → List Addr → α → β → Prop} {Q : β → Hp → Prop} {r : Res α} {W2 : WX} {σ2 : L2.St} (h : EPo W Z rel F R σ Q Wx r.nox) : EPo W Z rel F R σ2 Q W2 r := by
  cases r with
  | ok a m => exact h
  | exc c fs m => exact h.elim
  | stuck => exact h.elim
theorem passL2 {X : Cx} : Passes (L2.CX X.prog X.w) X.nox E0 := passL (X := X.nox)
theorem e_fld (C : Cn G n X Wx) (cf : ClF G X.K) {e : Expr} {a : E} {f : Str} {k : Nat} {pos : Pos} (he : PE X e (tE G n X Wx a)) (hf : G.nm k = f) (hb : attributeBase e f X.env (eval e X.env) = eval e X.env := by rfl) : PE X (.Attribute e f pos) (tE G n X Wx (.fld a k)) := by
  subst hf
  refine ⟨fun p s σ H Q I ⟨Z, F, R, sl, m, h1, h2, h3⟩ => ?_⟩
  unfold evE at h3
  refine attr_of hb (thn (he.run p s σ H _ I (tE_to (Qa := fun v H1 => ∃ x m1 F1 R1, SR (G.W X) Z F1 R1 m1 H1 ∧ Rel (G.W X) F1 R1 x v ∧ EPo (G.W X) Z (Rel (G.W X)) F1 R1 σ Q Wx (fldD G.P (run G.P n) k x m1)) h1 h2 h3
    fun v H1 x m1 F1 R1 l1 s1 r1 q1 => ⟨x, m1, F1, R1, s1, r1, q1⟩)) fun u s1 ⟨v, H1, I1, ru, x, m1, F1, R1, s1', r1, q1⟩ => ?_)
  unfold fldD at q1
  split at q1
  · rename_i c fs e1
    obtain ⟨a, dx, gs, rfl, ha, rf⟩ := r1.ins_of s1' e1
    cases ru
    split at q1
    · rename_i d hl
      obtain ⟨hc, q1⟩ := when_of q1
      rw [Bool.and_eq_true] at hc
      obtain ⟨v, hv, rv⟩ := (rf.look cf.nmI).2 d hl
      exact getattr_ok I1 ha (cf.cl c hc.1).cl (cf.fld c k hc.2) hv fun u s' I' ru => ⟨v, H1, I', ru, q1.here s1' rv⟩
    · split at q1
      · rename_i g hg
        obtain ⟨hc, ⟨pa, hp⟩, d, hd⟩ := cf.prop c k g hg
        have q2 := nox_of (W2 := fun c d _ H => E0 c d H) (σ2 := []) q1
        refine getprop_ok (dvs := []) (ds := []) I1 ha (cf.cl c hc).cl hp (C.fns g d hd) (C.rm.mono (by omega)) (cf.df g d hd).2 .nil passL2 ⟨?_, Z, F1, R1, [x], m1, s1', .cons r1 .nil, q2⟩
        rw [C.pnl g d hd, ← run_len hd q2]
        rfl
      · exact q1.elim
  · rename_i c fs e1
    obtain ⟨a, dx, gs, rfl, ha, hd, rf⟩ := r1.exc_of s1' e1
    cases ru
    obtain ⟨hc, q1⟩ := when_of q1
    rw [Bool.and_eq_true] at hc
    obtain ⟨d, hl, q1⟩ := ofOpt_of q1
    obtain ⟨v, hv, rv⟩ := (rf.look cf.nmI).2 d hl
    obtain ⟨oe, od, J, hlk⟩ := ext_at I1 rfl ha hd
    obtain ⟨_, T⟩ := cf.xc c hc.1
    obtain ⟨h7, h8⟩ := hlk (G.nm k)
    rw [hv] at h7
    obtain ⟨u, hu, ru⟩ := RelO.some_of h7
    have hu2 : PySem.W.lookIn (G.nm k) od = some (some u) := by
      cases e : PySem.W.lookIn (G.nm k) od with
      | none => rw [e] at hu; cases hu
      | some o => rw [e] at hu; exact congrArg some hu
    exact HandSPX.exc_get I1.kIn J T.ga T.gg T.exC (PySem.W.findObj_own T.hdC (cf.fld c k hc.2) rfl hu2) (handed_of ru) ⟨v, H1, I1.tok _, ru, q1.here s1' rv⟩
  · exact q1.elim

theorem e_fld0 (cf : ClF G X.K) {e : Expr} {a : E} {f : Str} {k : Nat} {pos : Pos} (he : PE X e (tE G n X Wx a)) (hf : G.nm k = f) (hp : ∀ c, G.P.prop c k = none := by intro _; rfl) (hb : attributeBase e f X.env (eval e X.env) = eval e X.env := by rfl) : PE X (.Attribute e f pos) (tE G n X Wx (.fld a k)) := by
  subst hf
  refine ⟨fun p s σ H Q I ⟨Z, F, R, sl, m, h1, h2, h3⟩ => ?_⟩
  unfold evE at h3
  refine attr_of hb (thn (he.run p s σ H _ I (tE_to (Qa := fun v H1 => ∃ x m1 F1 R1, SR (G.W X) Z F1 R1 m1 H1 ∧ Rel (G.W X) F1 R1 x v ∧ EPo (G.W X) Z (Rel (G.W X)) F1 R1 σ Q Wx (fldD G.P (run G.P n) k x m1)) h1 h2 h3
    fun v H1 x m1 F1 R1 l1 s1 r1 q1 => ⟨x, m1, F1, R1, s1, r1, q1⟩)) fun u s1 ⟨v, H1, I1, ru, x, m1, F1, R1, s1', r1, q1⟩ => ?_)
  unfold fldD at q1
  split at q1
  · rename_i c fs e1
    obtain ⟨a, dx, gs, rfl, ha, rf⟩ := r1.ins_of s1' e1
    cases ru
    split at q1
    · rename_i d hl
      obtain ⟨hc, q1⟩ := when_of q1
      rw [Bool.and_eq_true] at hc
      obtain ⟨v, hv, rv⟩ := (rf.look cf.nmI).2 d hl
      exact getattr_ok I1 ha (cf.cl c hc.1).cl (cf.fld c k hc.2) hv fun u s' I' ru => ⟨v, H1, I', ru, q1.here s1' rv⟩
    · rw [hp] at q1; exact q1.elim
  · rename_i c fs e1
    obtain ⟨a, dx, gs, rfl, ha, hd, rf⟩ := r1.exc_of s1' e1
    cases ru
    obtain ⟨hc, q1⟩ := when_of q1
    rw [Bool.and_eq_true] at hc
    obtain ⟨d, hl, q1⟩ := ofOpt_of q1
    obtain ⟨v, hv, rv⟩ := (rf.look cf.nmI).2 d hl
    obtain ⟨oe, od, J, hlk⟩ := ext_at I1 rfl ha hd
    obtain ⟨_, T⟩ := cf.xc c hc.1
    obtain ⟨h7, h8⟩ := hlk (G.nm k)
    rw [hv] at h7
    obtain ⟨u, hu, ru⟩ := RelO.some_of h7
    have hu2 : PySem.W.lookIn (G.nm k) od = some (some u) := by
      cases e : PySem.W.lookIn (G.nm k) od with
      | none => rw [e] at hu; cases hu
      | some o => rw [e] at hu; exact congrArg some hu
    exact HandSPX.exc_get I1.kIn J T.ga T.gg T.exC (PySem.W.findObj_own T.hdC (cf.fld c k hc.2) rfl hu2) (handed_of ru) ⟨v, H1, I1.tok _, ru, q1.here s1' rv⟩
  · exact q1.elim

/-! ### the arguments of a call -/
structure PAK (X : Cx) (es : List Expr) (kws : List Keyword) (pos : Pos) (ks : List Str) (t : L2.St → Hp → (List V → List V → Hp → Prop) → Prop) : Prop where
  run : ∀ (f : Value) (pins : List (Addr × Obj)) (s : Shared) (σ : L2.St) (H : Hp) (Q : List V → List V → Hp → Prop), Inv X pins σ H s → t σ H Q →
    wpAny (model X.prog X.w) X.A (evalArgs f true (backTo pos (starEach es X.env)) (backToKw pos (keywordEach kws X.env)))
      (fun a s' => ∃ us ws vs zs H', a = ⟨us, ks.zip ws⟩ ∧ Inv X pins σ H' s' ∧ Vals vs us ∧ Vals zs ws ∧ Q vs zs H') X.xe s
  plain : ((backTo pos (starEach es X.env)).any (·.1) || (backToKw pos (keywordEach kws X.env)).any (·.1.isNone)) = false
def tAK (G : Gd) (n : Nat) (X : Cx) (Wx : WX) (as bs : List E) : L2.St → Hp → (List V → List V → Hp → Prop) → Prop := fun σ H Q => tL G n X Wx as σ H fun vs H1 => tL G n X Wx bs σ H1 fun zs H2 => Q vs zs H2
theorem ak_nil {pos : Pos} : PAK X [] [] pos [] (tAK G n X Wx [] []) :=
  ⟨fun f p s σ H Q I ⟨Z, F, R, sl, m, h1, h2, h3⟩ => by
    obtain ⟨Z1, F1, R1, sl1, m1, k1, k2, k3⟩ := h3 F R H [] Le.refl h1 .nil
    exact evalArgs_nil3 ⟨[], [], [], [], H, rfl, I, .nil, .nil, k3 F1 R1 H [] Le.refl k1 .nil⟩, rfl⟩
theorem ak_pos {e : Expr} {es : List Expr} {as : List E} {pos : Pos} (h : PA X (e :: es) (tL G n X Wx as)) (he : starEach (e :: es) X.env = (false, eval e X.env) :: starEach es X.env := by rfl) (hpl : (backTo pos (starEach es X.env)).any (·.1) = false := by rfl) :
    PAK X (e :: es) [] pos [] (tAK G n X Wx as []) := by
  refine ⟨fun f p s σ H Q I hq => ?_, by rw [he]; show ((false || (backTo pos (starEach es X.env)).any (·.1)) || false) = false; rw [hpl]; rfl⟩
  have hr := h.run pos p s σ H _ I hq
  rw [he] at hr ⊢
  refine PySem.Calls.evalArgs_plain (thn hr fun us s' ⟨vs, H', I', r, Z1, F1, R1, sl1, m1, k1, k2, k3⟩ => ⟨us, [], vs, [], H', rfl, I', r, .nil, k3 F1 R1 H' [] Le.refl k1 .nil⟩)
theorem ak_kw {e : Expr} {es : List Expr} {as bs : List E} {kws : List Keyword} {ks : List Str} {pos : Pos} (h : PA X (e :: es) (tL G n X Wx as)) (hk : PK X kws (tL G n X Wx bs)) (hall : (backToKw pos (keywordEach kws X.env)).all (·.1.isSome) = true := by rfl) (hks : (backToKw pos (keywordEach kws X.env)).filterMap (·.1) = ks := by rfl)
    (he : starEach (e :: es) X.env = (false, eval e X.env) :: starEach es X.env := by rfl) (hpl : ((backTo pos (starEach (e :: es) X.env)).any (·.1) || (backToKw pos (keywordEach kws X.env)).any (·.1.isNone)) = false := by rfl) :
    PAK X (e :: es) kws pos ks (tAK G n X Wx as bs) := by
  refine ⟨fun f p s σ H Q I hq => ?_, hpl⟩
  have hr := h.run pos p s σ H _ I hq
  rw [he] at hr ⊢
  refine PyProof.Rows.evalArgs_kwB hall (thn hr fun us s' ⟨vs, H', I', r, q⟩ => thn (hk.run pos p s' σ H' _ I' q) fun ws s2 ⟨zs, H2, I2, rz, q2⟩ => ?_)
  rw [hks]
  exact ⟨us, ws, vs, zs, H2, rfl, I2, r, rz, q2⟩
theorem ak_kw0 {bs : List E} {kws : List Keyword} {ks : List Str} {pos : Pos} (hk : PK X kws (tL G n X Wx bs)) (hall : (backToKw pos (keywordEach kws X.env)).all (·.1.isSome) = true := by rfl) (hks : (backToKw pos (keywordEach kws X.env)).filterMap (·.1) = ks := by rfl)
    (hpl : ((backTo pos (starEach [] X.env)).any (·.1) || (backToKw pos (keywordEach kws X.env)).any (·.1.isNone)) = false := by rfl) :
    PAK X [] kws pos ks (tAK G n X Wx [] bs) := by
  refine ⟨fun f p s σ H Q I ⟨Z, F, R, sl, m, h1, h2, h3⟩ => ?_, hpl⟩
  have q := h3 F R H [] Le.refl h1 .nil
  refine PyProof.Rows.evalArgs_kw2_nil hall (thn (hk.run pos p s σ H _ I q) fun ws s2 ⟨zs, H2, I2, rz, q2⟩ => ?_)
  rw [hks]
  exact ⟨[], ws, [], zs, H2, rfl, I2, .nil, rz, q2⟩
theorem k_nil : PK X [] (tL G n X Wx []) :=
  ⟨fun pos p s σ H Q I ⟨Z, F, R, sl, m, h1, h2, h3⟩ => pk_nil.run pos p s σ H Q I (h3 F R H [] Le.refl h1 .nil)⟩
theorem k_cons {nm : Option Str} {e : Expr} {kpos : Pos} {kws : List Keyword} {a : E} {as : List E} (ha : PE X e (tE G n X Wx a)) (hr : PK X kws (tL G n X Wx as)) : PK X (⟨nm, e, kpos⟩ :: kws) (tL G n X Wx (a :: as)) := by
  refine ⟨fun pos p s σ H Q I ⟨Z, F, R, sl, m, h1, h2, h3⟩ => ?_⟩
  refine (pk_cons ha hr).run pos p s σ H Q I ⟨Z, F, R, sl, m, h1, h2, ?_⟩
  unfold evL at h3
  refine (EPo.bind (rel := Rel (G.W X)) h3).imp ?_
  rintro v H1 ⟨x, m1, F1, R1, _, l1, s1, r1, q1⟩
  refine ⟨Z, F1, R1, sl, m1, s1, h2.mono l1, (EPo.bind (rel := Rels (G.W X)) q1).imp ?_⟩
  rintro vs H2 ⟨xs, m2, F2, R2, _, l2, s2, r2, q2⟩
  exact q2 F2 R2 H2 (v :: vs) Le.refl s2 (.cons (r1.mono l2) r2)
/-- how a call pattern binds: nP values, keywords ks (their names' numbers kn); first: what the machine puts ahead -/
def KBd (G : Gd) (K : PySem.W.Frag) (f nP : Nat) (ks : List Str) (kn : List Nat) : Prop := ∀ (s : Shared) (us ws : List Value), K.In s.heap → us.length = nP → ws.length = ks.length →
  ∃ us', BindsTo s (G.fd f) ⟨us, ks.zip ws⟩ ((G.pn f).zip us') ∧ ∀ (W : Wl) (F : Hp) (R : List Addr) (as zs as' : List D) (vs us0 : List V) (d : Df), G.P.df f = some d → Rels W F R as vs → Vals vs us → Rels W F R zs us0 → Vals us0 ws → bindK d.ps as kn zs d.dfl = some as' →
    ∃ vs', Rels W F R as' vs' ∧ Vals vs' us'
theorem bindK_go {ps0 : List Nat} {dfl : List D} : ∀ (k : Nat) (ps : List Nat) (as : List D), as.length = ps.length → bindK.go ps0 [] [] dfl k ps as = some as
  | _, [], [], _ => rfl
  | _, [], _ :: _, e => by cases e
  | _, _ :: _, [], e => by cases e
  | k, p :: ps, a :: as, e => by
    unfold bindK.go
    rw [bindK_go (k + 1) ps as (by simpa using e)]
    rfl
theorem kbd_pos {f : Nat} {d : Df} (cf : ClF G X.K) (C : Cn G n X Wx) (hd : G.P.df f = some d) {nP : Nat} (hl : nP = (G.pn f).length) : KBd G X.K f nP [] [] := by
  intro s us ws kin e1 e2
  cases ws with
  | cons => cases e2
  | nil =>
  have hb := (cf.df f d hd).2 s us kin (by simpa using e1.trans hl)
  rw [List.append_nil] at hb
  refine ⟨us, hb, fun W F R as zs as' vs us0 d' hd' ra rv rz rw_ hk => ?_⟩
  rw [hd] at hd'
  cases hd'
  cases rw_
  cases rz
  rw [bindK, bindK_go _ _ _ (by rw [ra.length, rv.length, e1, hl, C.pnl f d hd])] at hk
  cases hk
  exact ⟨vs, ra, rv⟩

/-! ### calls -/
/-- the callee runs, its arguments bound -/
theorem go_df (C : Cn G n X Wx) {p : List (Addr × Obj)} {s : Shared} {f : Nat} {d : Df} {ks : List Str} {kn : List Nat} {as zs : List D} {vs us0 : List V} {us ws : List Value} (hf : G.P.df f = some d) (kb : KBd G X.K f us.length ks kn) (hl : ws.length = ks.length)
    (I : Inv X p σ H s) (h1 : SR (G.W X) Z F R m H) (r : Rels (G.W X) F R as vs) (ru : Vals vs us) (rz : Rels (G.W X) F R zs us0) (rw_ : Vals us0 ws) (h : EPo (G.W X) Z (Rel (G.W X)) F R σ Q Wx (callK G.P (run G.P n) f as kn zs m)) :
    wpAny (model X.prog X.w) X.A (call (.ref (G.fa f)) us (ks.zip ws)) (EP X p σ Q) X.xe s := by
  unfold callK at h
  simp only [hf] at h
  split at h
  · rename_i as' e
    obtain ⟨us', hb, hr⟩ := kb s us ws I.kIn rfl hl
    obtain ⟨vs', ra, rv⟩ := hr (G.W X) F R as zs as' vs us0 d hf r ru rz rw_ e
    have hl : vs'.length = (G.pn f).length := by rw [C.pnl f d hf, ← run_len hf h, ra.length]
    refine wpAny_call (codeAny_mono ((C.fns f d hf).run X.A X.stack s H ⟨us, ks.zip ws⟩ us' vs' Q (WE Wx σ) (C.rm.mono (by omega)) I.env0 hb rv ⟨hl, Z, F, R, as', m, h1, ra, h.sig⟩) fun r s' hq => ?_)
    cases r with
    | error e => exact passAt C.tk σ p H s e s' I hq
    | ok fl =>
      cases fl with
      | ret u => exact I.after hq
      | next => exact False.elim hq
      | brk => exact False.elim hq
      | cont => exact False.elim hq
  · exact h.elim
theorem evL_len {P : Pr} {call : Cal} {sl : Sl} : ∀ {as : List E} {m m2 : Mu} {vs : List D}, evL P call as sl m = .ok vs m2 → vs.length = as.length
  | [], m, m2, vs, e => by unfold evL at e; cases e; rfl
  | a :: as, m, m2, vs, e => by
    unfold evL at e
    cases e1 : evE P call a sl m with
    | ok x m1 =>
      rw [e1] at e
      simp only [Res.bind_ok] at e
      cases e2 : evL P call as sl m1 with
      | ok xs m3 =>
        rw [e2] at e
        cases e
        rw [List.length_cons, List.length_cons, evL_len e2]
      | exc => rw [e2] at e; cases e
      | stuck => rw [e2] at e; cases e
    | exc => rw [e1] at e; cases e
    | stuck => rw [e1] at e; cases e
/-- behind an argument list, its length known -/
theorem tL_toN {as : List E} {Z F : Hp} {R : List Addr} {sl : Sl} {m : Mu} (h1 : SR (G.W X) Z F R m H) (h2 : RS' (G.W X) F R sl σ) {k : List D → Mu → Res D} {Qa : List V → Hp → Prop}
    (h3 : EPo (G.W X) Z (Rel (G.W X)) F R σ Q Wx ((evL G.P (run G.P n) as sl m).bind k))
    (h : ∀ vs H1 xs m1 F1 R1, vs.length = as.length → Le F R F1 R1 → SR (G.W X) Z F1 R1 m1 H1 → Rels (G.W X) F1 R1 xs vs → EPo (G.W X) Z (Rel (G.W X)) F1 R1 σ Q Wx (k xs m1) → Qa vs H1) : tL G n X Wx as σ H Qa :=
  ⟨Z, F, R, sl, m, h1, h2, (EPo.bind (rel := Rels (G.W X)) h3).imp fun vs H1 ⟨xs, m1, F1, R1, e, l1, s1, r1, q1⟩ => h vs H1 xs m1 F1 R1 (by rw [← r1.length, evL_len e]) l1 s1 r1 q1⟩
/-- the arguments evaluated, then k -/
theorem tAK_to {as bs : List E} {sl : Sl} (h1 : SR (G.W X) Z F R m H) (h2 : RS' (G.W X) F R sl σ) {k : List D → List D → Mu → Res D} {Qa : List V → List V → Hp → Prop}
    (h3 : EPo (G.W X) Z (Rel (G.W X)) F R σ Q Wx ((evL G.P (run G.P n) as sl m).bind fun vs m => (evL G.P (run G.P n) bs sl m).bind fun us m => k vs us m))
    (h : ∀ vs zs H1 xs ys m1 F1 R1, vs.length = as.length → zs.length = bs.length → Le F R F1 R1 → SR (G.W X) Z F1 R1 m1 H1 → Rels (G.W X) F1 R1 xs vs → Rels (G.W X) F1 R1 ys zs → EPo (G.W X) Z (Rel (G.W X)) F1 R1 σ Q Wx (k xs ys m1) → Qa vs zs H1) :
    tAK G n X Wx as bs σ H Qa :=
  tL_toN h1 h2 h3 fun vs H1 xs m1 F1 R1 e1 l1 s1 r1 q1 => tL_toN s1 (h2.mono l1) q1 fun zs H2 ys m2 F2 R2 e2 l2 s2 r2 q2 => h vs zs H2 xs ys m2 F2 R2 e1 e2 (l1.trans l2) s2 (r1.mono l2) r2 q2
/-- f(..) -/
theorem e_call (C : Cn G n X Wx) (cf : ClF G X.K) {f : Nat} {d : Df} {x : Str} {p pos : Pos} {es : List Expr} {kws : List Keyword} {ks : List Str} {kn : List Nat} {as bs : List E} (hf : G.P.df f = some d) (ha : PAK X es kws pos ks (tAK G n X Wx as bs)) (kb : KBd G X.K f as.length ks kn) (hl : bs.length = ks.length)
    (hg : Gl X x) (hm : X.mg x = some (.ref (G.fa f))) (hdb : (x == ("__debug__" : Str)) = false := by decide) : PE X (.Call (.Name x p) es kws pos) (tE G n X Wx (.call f as kn bs)) := by
  refine ⟨fun pins s σ H Q I ⟨Z, F, R, sl, m, h1, h2, h3⟩ => ?_⟩
  unfold evE at h3
  refine wpAny_Call_Name_kw (ld_glob I hg hm ?_ hdb)
  refine PySem.W.callWith_of (P := fun h => X.K.In h) ha.plain (fun h K => PySem.W.keeps_K (cf.df f d hf).1 h K) (thn (ha.run (.ref (G.fa f)) pins s σ H _ I (tAK_to (Qa := fun vs zs H1 => ∃ xs ys m1 F1 R1, vs.length = as.length ∧ zs.length = bs.length ∧ SR (G.W X) Z F1 R1 m1 H1 ∧ Rels (G.W X) F1 R1 xs vs ∧ Rels (G.W X) F1 R1 ys zs ∧
    EPo (G.W X) Z (Rel (G.W X)) F1 R1 σ Q Wx (callK G.P (run G.P n) f xs kn ys m1)) h1 h2 h3 fun vs zs H1 xs ys m1 F1 R1 e1 e2 l1 s1 r1 r2 q1 => ⟨xs, ys, m1, F1, R1, e1, e2, s1, r1, r2, q1⟩))
    fun a s1 ⟨us, ws, vs, zs, H1, ea, I1, ru, rz, xs, ys, m1, F1, R1, e1, e2, s1', r1, r2, q1⟩ => ⟨I1.kIn, ?_⟩)
  subst ea
  exact go_df (us := us) C hf (by rw [← ru.length, e1]; exact kb) (by rw [← rz.length, e2, hl]) I1 s1' r1 ru r2 rz q1
/-- C.m(..), m a staticmethod of the class at C -/
theorem e_stat (C : Cn G n X Wx) (cf : ClF G X.K) {f c : Nat} {d : Df} {x m' : Str} {p apos pos : Pos} {es : List Expr} {kws : List Keyword} {ks : List Str} {kn : List Nat} {as bs : List E} (hf : G.P.df f = some d) (ha : PAK X es kws pos ks (tAK G n X Wx as bs)) (kb : KBd G X.K f as.length ks kn) (hl : bs.length = ks.length)
    (hg : Gl X x) (hm : X.mg x = some (.ref (G.C c))) {mc : Value} {sm : Addr} {rest : List Value} (hga : PySem.W.specialIn X.K (.ref (G.C c)) "__getattribute__" = some (some (.builtin "type.__getattribute__"))) (hr : PySem.W.readsIn X.K (G.C c) mc = true)
    (hfc : PySem.W.findCls X.K (.ref (G.C c)) mc m' = some (.get (.builtin "staticmethod.__get__") (.ref sm) .none (.ref (G.C c)))) (hrec : PySem.W.recIn X.K sm "staticmethod" = some (.ref (G.fa f) :: rest))
    {pl : Sem Bool} (ht : eval (.Call (.Attribute (.Name x p) m' apos) es kws pos) X.env = (do
      let ov ← eval (.Name x p) X.env
      standAt apos.atName
      let (f, first) ← holding [ov] (getMethod ov m' pl)
      callWith pos f first (backTo pos (starEach es X.env)) (backToKw pos (keywordEach kws X.env))) := by rfl)
    (hdb : (x == ("__debug__" : Str)) = false := by decide) : PE X (.Call (.Attribute (.Name x p) m' apos) es kws pos) (tE G n X Wx (.call f as kn bs)) := by
  refine ⟨fun pins s σ H Q I ⟨Z, F, R, sl, m, h1, h2, h3⟩ => ?_⟩
  unfold evE at h3
  refine PySem.W.methodCall_KW (pl := pl) (ld_glob I hg hm ?_ hdb) ht
  refine PySem.W.method_cls I.kIn hga (PySem.W.cls_bind I.kIn hr hfc (wpAny_call (PySem.W.sm_get (s := { s with toks := s.toks + 1 }) I.kIn hrec (PySem.W.handed_on rfl ?_))))
  have I0 : Inv X pins σ H { s with toks := s.toks + 1 } := I.tok _
  refine PySem.W.callWith_of (P := fun h => X.K.In h) ha.plain (fun h K => PySem.W.keeps_K (cf.df f d hf).1 h K) (thn (ha.run (.ref (G.fa f)) pins _ σ H _ I0 (tAK_to (Qa := fun vs zs H1 => ∃ xs ys m1 F1 R1, vs.length = as.length ∧ zs.length = bs.length ∧ SR (G.W X) Z F1 R1 m1 H1 ∧ Rels (G.W X) F1 R1 xs vs ∧ Rels (G.W X) F1 R1 ys zs ∧
    EPo (G.W X) Z (Rel (G.W X)) F1 R1 σ Q Wx (callK G.P (run G.P n) f xs kn ys m1)) h1 h2 h3 fun vs zs H1 xs ys m1 F1 R1 e1 e2 l1 s1 r1 r2 q1 => ⟨xs, ys, m1, F1, R1, e1, e2, s1, r1, r2, q1⟩))
    fun a s1 ⟨us, ws, vs, zs, H1, ea, I1, ru, rz, xs, ys, m1, F1, R1, e1, e2, s1', r1, r2, q1⟩ => ⟨I1.kIn, ?_⟩)
  subst ea
  exact go_df (us := us) C hf (by rw [← ru.length, e1]; exact kb) (by rw [← rz.length, e2, hl]) I1 s1' r1 ru r2 rz q1
end
end Pv

set_option Elab.async false
set_option linter.all false
set_option autoImplicit false
set_option maxRecDepth 100000
set_option maxHeartbeats 1000000
/-! PvI: letting go: what stood by a number stands for good. -/
namespace Pv
open PySem PySem.Spec PyProof.Rows L2
section
variable {W : Wl} {F F' : Hp} {R R' : List Addr} {r : Nat → Option D}
mutual
theorem Rel.map (l : ∀ a o, F a = some o → F' a = some o) (hr : ∀ i a d', R[i]? = some a → r i = some d' → Rel W F' R' d' (.ref a)) : ∀ {d : D} {v : V} {d' : D}, Rel W F R d v → mapLoc r d = some d' → Rel W F' R' d' v
  | _, _, _, .non, e => by cases e; exact .non
  | _, _, _, .bl b, e => by cases e; exact .bl b
  | _, _, _, .int i, e => by cases e; exact .int i
  | _, _, _, .str x, e => by cases e; exact .str x
  | _, _, _, .ty n, e => by cases e; exact .ty n
  | _, _, _, .tup (xs := xs) h s, e => by
    unfold mapLoc at e
    obtain ⟨ys, e1, rfl⟩ := map_of e
    exact .tup (sqT_mono l h) (s.map l hr e1)
  | _, _, _, .lst (xs := xs) h s, e => by
    unfold mapLoc at e
    obtain ⟨ys, e1, rfl⟩ := map_of e
    exact .lst (l _ _ h) (s.map l hr e1)
  | _, _, _, .ins h s, e => by
    unfold mapLoc at e
    obtain ⟨ys, e1, rfl⟩ := map_of e
    exact .ins (l _ _ h) (s.map l hr e1)
  | _, _, _, .cls c, e => by cases e; exact .cls c
  | _, _, _, .scr h, e => by cases e; exact .scr (sqL_mono l h)
  | _, _, _, .sets h a b, e => by cases e; exact .sets (l _ _ h) a b
  | _, _, _, .kdic h, e => by cases e; exact .kdic h
  | _, _, _, .dk h, e => by cases e; exact .dk (l _ _ h)
  | _, _, _, .exc h g s, e => by
    unfold mapLoc at e
    obtain ⟨ys, e1, rfl⟩ := map_of e
    exact .exc (l _ _ h) (l _ _ g) (s.map l hr e1)
  | _, _, _, .loc h, e => by
    unfold mapLoc at e
    exact hr _ _ _ h e
theorem Rels.map (l : ∀ a o, F a = some o → F' a = some o) (hr : ∀ i a d', R[i]? = some a → r i = some d' → Rel W F' R' d' (.ref a)) : ∀ {ds : List D} {vs : List V} {ds' : List D}, Rels W F R ds vs → mapLocs r ds = some ds' → Rels W F' R' ds' vs
  | _, _, _, .nil, e => by unfold mapLocs at e; cases e; exact .nil
  | _, _, _, .cons a b, e => by
    unfold mapLocs at e
    obtain ⟨y, e1, e2⟩ := Option.bind_eq_some_iff.mp e
    obtain ⟨ys, e3, rfl⟩ := map_of e2
    exact .cons (a.map l hr e1) (b.map l hr e3)
theorem RelF.map (l : ∀ a o, F a = some o → F' a = some o) (hr : ∀ i a d', R[i]? = some a → r i = some d' → Rel W F' R' d' (.ref a)) : ∀ {ds : List (Nat × D)} {vs : List (Str × V)} {ds' : List (Nat × D)}, RelF W F R ds vs → mapLocF r ds = some ds' → RelF W F' R' ds' vs
  | _, _, _, .nil, e => by unfold mapLocF at e; cases e; exact .nil
  | _, _, _, .cons a b, e => by
    unfold mapLocF at e
    obtain ⟨y, e1, e2⟩ := Option.bind_eq_some_iff.mp e
    obtain ⟨ys, e3, rfl⟩ := map_of e2
    exact .cons (a.map l hr e1) (b.map l hr e3)
end
theorem RelO.map (l : ∀ a o, F a = some o → F' a = some o) (hr : ∀ i a d', R[i]? = some a → r i = some d' → Rel W F' R' d' (.ref a)) {d d' : D} {u : HO} (h : RelO W F R d u) (e : mapLoc r d = some d') : RelO W F' R' d' u := by
  cases h with
  | lst s =>
    unfold mapLoc at e
    obtain ⟨ys, e1, rfl⟩ := map_of e
    exact .lst (s.map l hr e1)
  | ins s =>
    unfold mapLoc at e
    obtain ⟨ys, e1, rfl⟩ := map_of e
    exact .ins (s.map l hr e1)
end
section
variable {W : Wl} {Z F : Hp} {R : List Addr} {m m2 : Mu} {H : Hp} {b : Nat}
/-- what stands for good behind it -/
def froz (F H : Hp) (l : List Addr) : Hp := fun a => match F a with
  | some o => some o
  | none => if a ∈ l then H a else none
theorem froz_le {F H : Hp} {l : List Addr} : ∀ a o, F a = some o → froz F H l a = some o := fun a o h => by unfold froz; rw [h]
theorem froz_at {F H : Hp} {l : List Addr} {a : Addr} (h : F a = none) (m : a ∈ l) : froz F H l a = H a := by unfold froz; rw [h]; exact if_pos m
theorem froz_no {F H : Hp} {l : List Addr} {a : Addr} (h : F a = none) (m : a ∉ l) : froz F H l a = none := by unfold froz; rw [h]; exact if_neg m
theorem putBy_ok (s : SR W Z F R m H) {R' : List Addr} {l : List Addr} (hl : ∀ i, b ≤ i → ∀ a d, R[i]? = some a → m[i]? = some (some d) → a ∈ l) (hR : ∀ (i : Nat) a, i < b → R[i]? = some a → R'[i]? = some a) : ∀ (k i : Nat) (a : Addr) (d' : D), R[i]? = some a → putBy m b k i = some d' → Rel W (froz F H l) R' d' (.ref a)
  | 0, i, a, d', h, e => by
    unfold putBy at e
    split at e
    · rename_i hi
      cases e
      exact .loc (hR i a hi h)
    · cases e
  | k + 1, i, a, d', h, e => by
    unfold putBy at e
    split at e
    · rename_i hi
      cases e
      exact .loc (hR i a hi h)
    · rename_i hi
      split at e
      · rename_i o eo
        obtain ⟨u, hu, ro⟩ := s.at_ i a o h eo
        have fa := (s.off i a h).1
        have ga : froz F H l a = some u := by rw [froz_at fa (hl i (by omega) a o h eo)]; exact hu
        have ro' := ro.map (r := putBy m b k) froz_le (putBy_ok s hl hR k) e
        cases ro' with
        | lst rs => exact .lst ga rs
        | ins rs => exact .ins ga rs
      · cases e
theorem layM_get : ∀ {l : Mu} {l2 : Mu} {i : Nat} {o : Option D}, layM m b l = some l2 → l2[i]? = some o → ∃ p, l[i]? = some p ∧ layO m b p = some o
  | [], l2, i, o, e, h => by unfold layM at e; cases e; simp at h
  | p :: l, l2, i, o, e, h => by
    unfold layM at e
    obtain ⟨x, e1, e2⟩ := Option.bind_eq_some_iff.mp e
    obtain ⟨ys, e3, rfl⟩ := map_of e2
    cases i with
    | zero => simp at h; subst h; exact ⟨p, rfl, e1⟩
    | succ i => obtain ⟨q, h1, h2⟩ := layM_get (i := i) e3 (by simpa using h); exact ⟨q, by simpa using h1, h2⟩
theorem layM_len : ∀ {l : Mu} {l2 : Mu}, layM m b l = some l2 → l2.length = l.length
  | [], l2, e => by unfold layM at e; cases e; rfl
  | p :: l, l2, e => by
    unfold layM at e
    obtain ⟨x, e1, e2⟩ := Option.bind_eq_some_iff.mp e
    obtain ⟨ys, e3, rfl⟩ := map_of e2
    rw [List.length_cons, List.length_cons, layM_len e3]
theorem take_get {α : Type} {l : List α} {i b : Nat} {a : α} : (l.take b)[i]? = some a ↔ i < b ∧ l[i]? = some a := by
  rw [List.getElem?_take]
  by_cases h : i < b <;> simp [h]
/-- numbers from b on are let go -/
theorem freeze (s : SR W Z F R m H) (hb : b ≤ m.length) (hc : cut m b = some m2) : SR W Z (froz F H (R.drop b)) (R.take b) m2 H ∧ (∀ d v d', Rel W F R d v → lay m b d = some d' → Rel W (froz F H (R.drop b)) (R.take b) d' v) ∧
    ∀ fs gs fs', RelF W F R fs gs → layF m b fs = some fs' → RelF W (froz F H (R.drop b)) (R.take b) fs' gs := by
  have nb : ∀ (i j : Nat) a, R[i]? = some a → R[j]? = some a → i = j := fun i j a h1 h2 => by
    obtain ⟨k1, e1⟩ := List.getElem?_eq_some_iff.mp h1
    obtain ⟨k2, e2⟩ := List.getElem?_eq_some_iff.mp h2
    exact (List.getElem_inj s.nd).mp (e1.trans e2.symm)
  have inD : ∀ i, b ≤ i → ∀ a (d : D), R[i]? = some a → m[i]? = some (some d) → a ∈ R.drop b := fun i hi a d h _ => by
    refine List.mem_of_getElem? (i := i - b) ?_
    rw [List.getElem?_drop, show b + (i - b) = i from by omega]
    exact h
  have notD : ∀ (i : Nat) a, i < b → R[i]? = some a → a ∉ R.drop b := fun i a hi h hm => by
    obtain ⟨j, hj⟩ := List.getElem?_of_mem hm
    rw [List.getElem?_drop] at hj
    have := nb i (b + j) a h hj
    omega
  have pk := putBy_ok (b := b) s (R' := R.take b) (l := R.drop b) inD (fun i a hi h => take_get.mpr ⟨hi, h⟩) 4
  refine ⟨⟨fun a o h => ?_, ?_, s.nd.sublist (List.take_sublist _ _), fun i a h => ?_, fun i a o h e => ?_, fun a o h => ?_⟩, fun d v d' r e => r.map froz_le pk e, fun fs gs fs' r e => r.map froz_le pk e⟩
  · unfold froz at h
    split at h
    · rename_i o' e; cases h; exact s.ex a _ e
    · split at h
      · exact h
      · cases h
  · rw [layM_len hc, List.length_take, List.length_take, s.len]
  · obtain ⟨hi, h⟩ := take_get.mp h
    obtain ⟨h1, h2⟩ := s.off i a h
    exact ⟨froz_no h1 (notD i a hi h), h2⟩
  · obtain ⟨hi, h⟩ := take_get.mp h
    obtain ⟨p, e1, e2⟩ := layM_get hc e
    obtain ⟨_, e1⟩ := take_get.mp e1
    cases p with
    | none => cases e2
    | some d =>
      unfold layO at e2
      obtain ⟨d', e3, e4⟩ := map_of e2
      cases e4
      obtain ⟨u, hu, ro⟩ := s.at_ i a d h e1
      exact ⟨u, hu, ro.map froz_le pk e3⟩
  · obtain ⟨h1, h2, h3⟩ := s.gh a o h
    exact ⟨h1, froz_no h2 fun hm => h3 (List.mem_of_mem_drop hm), fun hm => h3 (List.mem_of_mem_take hm)⟩
/-- a number forgotten -/
theorem SR.drop1 (s : SR W Z F R m H) (i : Nat) : SR W Z F R (m.set i none) H :=
  ⟨s.ex, by simp [s.len], s.nd, s.off, fun j a o h e => by
    by_cases q : i = j
    · subst q
      by_cases hi : i < m.length
      · rw [List.getElem?_set_self hi] at e; cases e
      · rw [List.getElem?_eq_none (by simpa using hi)] at e; cases e
    · rw [List.getElem?_set_ne q] at e
      exact s.at_ j a o h e, s.gh⟩
/-- .. but the one at i, which becomes number b -/
theorem freezeK (s : SR W Z F R m H) {i : Nat} {a : Addr} {o o' : D} (hb : b ≤ i) (hi : R[i]? = some a) (ho : m[i]? = some (some o)) (hc : cut (m.set i none) b = some m2) (hl : lay (m.set i none) b o = some o') :
    ∃ F', SR W Z F' (R.take b ++ [a]) (m2 ++ [some o']) H ∧ (∀ a o, F a = some o → F' a = some o) ∧ b = m2.length := by
  obtain ⟨u, hu, ro⟩ := s.at_ i a o hi ho
  have fa := (s.off i a hi).1
  have s1 := s.drop1 i
  have nb : ∀ (i j : Nat) a, R[i]? = some a → R[j]? = some a → i = j := fun i j a h1 h2 => by
    obtain ⟨k1, e1⟩ := List.getElem?_eq_some_iff.mp h1
    obtain ⟨k2, e2⟩ := List.getElem?_eq_some_iff.mp h2
    exact (List.getElem_inj s.nd).mp (e1.trans e2.symm)
  have il : i < R.length := (List.getElem?_eq_some_iff.mp hi).1
  have bl : b = m2.length := by
    rw [layM_len hc, List.length_take, List.length_set, ← s.len]
    omega
  refine ⟨froz F H ((R.drop b).filter (fun c => decide (c ≠ a))), ?_, froz_le, bl⟩
  have inD : ∀ j, b ≤ j → ∀ c (d : D), R[j]? = some c → (m.set i none)[j]? = some (some d) → c ∈ (R.drop b).filter (fun c => decide (c ≠ a)) := fun j hj c d h e => by
    have ne : i ≠ j := fun q => by
      subst q
      rw [List.getElem?_set_self (by rw [← s.len]; exact il)] at e
      cases e
    refine List.mem_filter.mpr ⟨List.mem_of_getElem? (i := j - b) ?_, ?_⟩
    · rw [List.getElem?_drop, show b + (j - b) = j from by omega]
      exact h
    · simp only [decide_eq_true_eq]
      exact fun q => ne (nb i j c (by rw [hi, q]) h)
  have notD : ∀ (j : Nat) c, j < b → R[j]? = some c → c ∉ (R.drop b).filter (fun c => decide (c ≠ a)) := fun j c hj h hm => by
    obtain ⟨k, hk⟩ := List.getElem?_of_mem (List.mem_filter.mp hm).1
    rw [List.getElem?_drop] at hk
    have := nb j (b + k) c h hk
    omega
  have nota : a ∉ (R.drop b).filter (fun c => decide (c ≠ a)) := fun hm => by simpa using (List.mem_filter.mp hm).2
  have pk := putBy_ok (b := b) s1 (R' := R.take b ++ [a]) inD (fun j c hj h => by
    rw [List.getElem?_append_left (by rw [List.length_take]; exact Nat.lt_min.mpr ⟨hj, (List.getElem?_eq_some_iff.mp h).1⟩)]
    exact take_get.mpr ⟨hj, h⟩) 4
  have getR : ∀ (j : Nat) (c : Addr), (R.take b ++ [a])[j]? = some c → (j < b ∧ R[j]? = some c) ∨ (j = b ∧ c = a) := fun j c h => by
    by_cases hj : j < b
    · rw [List.getElem?_append_left (by rw [List.length_take]; omega)] at h
      exact .inl (take_get.mp h)
    · rw [List.getElem?_append_right (by rw [List.length_take]; omega)] at h
      have hz : j - (R.take b).length = 0 := by
        have := (List.getElem?_eq_some_iff.mp h).1
        simpa using this
      rw [hz] at h
      cases h
      rw [List.length_take] at hz
      exact .inr ⟨by omega, rfl⟩
  refine ⟨fun c o h => ?_, ?_, ?_, fun j c h => ?_, fun j c d h e => ?_, fun c d h => ?_⟩
  · unfold froz at h
    split at h
    · rename_i o' e; cases h; exact s.ex c _ e
    · split at h
      · exact h
      · cases h
  · rw [List.length_append, List.length_append, ← bl, List.length_take, Nat.min_eq_left (by omega)]
    rfl
  · rw [List.nodup_append]
    refine ⟨s.nd.sublist (List.take_sublist _ _), by simp, fun c hc c' hc' => ?_⟩
    simp at hc'
    subst hc'
    intro q
    subst q
    obtain ⟨k, hk⟩ := List.getElem?_of_mem hc
    obtain ⟨h1, h2⟩ := take_get.mp hk
    have := nb i k c hi h2
    omega
  · rcases getR j c h with ⟨hj, h⟩ | ⟨hj, rfl⟩
    · obtain ⟨h1, h2⟩ := s.off j c h
      exact ⟨froz_no h1 (notD j c hj h), h2⟩
    · exact ⟨froz_no fa nota, (s.off i c hi).2⟩
  · rcases getR j c h with ⟨hj, h⟩ | ⟨hj, rfl⟩
    · rw [List.getElem?_append_left (by omega)] at e
      obtain ⟨p, e1, e2⟩ := layM_get hc e
      obtain ⟨_, e1⟩ := take_get.mp e1
      cases p with
      | none => cases e2
      | some d0 =>
        unfold layO at e2
        obtain ⟨d', e3, e4⟩ := map_of e2
        cases e4
        obtain ⟨u, hu, ro⟩ := s1.at_ j c d0 h e1
        exact ⟨u, hu, ro.map froz_le pk e3⟩
    · subst hj
      rw [List.getElem?_append_right (by omega), bl, Nat.sub_self] at e
      cases e
      exact ⟨u, hu, ro.map froz_le pk hl⟩
  · obtain ⟨h1, h2, h3⟩ := s.gh c d h
    refine ⟨h1, froz_no h2 fun hm => h3 (List.mem_of_mem_drop (List.mem_filter.mp hm).1), fun hm => ?_⟩
    rcases List.mem_append.mp hm with hm | hm
    · exact h3 (List.mem_of_mem_take hm)
    · simp at hm; subst hm; exact h3 (List.mem_of_getElem? hi)
/-- back behind letting go -/
theorem Le.freeze {F' : Hp} {R' : List Addr} (l : Le F R F' R') {l' : List Addr} (hb : R.length = b) : Le F R (froz F' H l') (R'.take b) := by
  refine ⟨fun a o h => froz_le a o (l.ex a o h), [], ?_⟩
  obtain ⟨r, rfl⟩ := l.re
  rw [← hb, List.take_left, List.append_nil]
end
end Pv

set_option Elab.async false
set_option linter.all false
set_option autoImplicit false
set_option maxRecDepth 100000
set_option maxHeartbeats 1000000
/-! PvJ: methods, new instances, a def's end. -/
namespace Pv
open PySem PySem.Spec PyProof.Rows L2
section
variable {G : Gd} {n : Nat} {X : Cx} {Wx : WX} {σ : L2.St} {H : Hp} {Q : VK} {Z F : Hp} {R : List Addr} {m : Mu}
/-- o.m(..) -/
theorem e_meth (C : Cn G n X Wx) (cf : ClF G X.K) {k : Nat} {m' : Str} {o : Expr} {o' : E} {apos pos : Pos} {es : List Expr} {kws : List Keyword} {ks : List Str} {kn : List Nat} {as bs : List E} (ho : PE X o (tE G n X Wx o')) (hk : G.nm k = m') (ha : PAK X es kws pos ks (tAK G n X Wx as bs))
    (kb : ∀ c f, G.P.meth c k = some f → KBd G X.K f (as.length + 1) ks kn ∧ ∃ d, G.P.df f = some d) (hl : bs.length = ks.length)
    {pl : Sem Bool} (ht : eval (.Call (.Attribute o m' apos) es kws pos) X.env = (do
      let ov ← eval o X.env
      standAt apos.atName
      let (f, first) ← holding [ov] (getMethod ov m' pl)
      callWith pos f first (backTo pos (starEach es X.env)) (backToKw pos (keywordEach kws X.env))) := by rfl) : PE X (.Call (.Attribute o m' apos) es kws pos) (tE G n X Wx (.meth o' k as kn bs)) := by
  subst hk
  refine ⟨fun pins s σ H Q I ⟨Z, F, R, sl, m, h1, h2, h3⟩ => ?_⟩
  unfold evE at h3
  refine PySem.W.methodCall_KW (pl := pl) (thn (ho.run pins s σ H _ I (tE_to (Qa := fun v H1 => ∃ x m1 F1 R1, RS' (G.W X) F1 R1 sl σ ∧ SR (G.W X) Z F1 R1 m1 H1 ∧ Rel (G.W X) F1 R1 x v ∧ EPo (G.W X) Z (Rel (G.W X)) F1 R1 σ Q Wx
    (methD G.P k x m1 fun f => (evL G.P (run G.P n) as sl m1).bind fun vs m => (evL G.P (run G.P n) bs sl m).bind fun us m => callK G.P (run G.P n) f (x :: vs) kn us m)) h1 h2 h3
    fun v H1 x m1 F1 R1 l1 s1 r1 q1 => ⟨x, m1, F1, R1, h2.mono l1, s1, r1, q1⟩)) fun u s1 ⟨v, H1, I1, ru, x, m1, F1, R1, h2', s1', r1, q1⟩ => ?_) ht
  unfold methD at q1
  split at q1
  · rename_i c fs e1
    split at q1
    · rename_i f hn hf
      obtain ⟨hc, q1⟩ := when_of q1
      obtain ⟨a, dx, gs, rfl, hA, rf⟩ := r1.ins_of s1' e1
      cases ru
      obtain ⟨kb, d, hd⟩ := kb c f hf
      have hg := (rf.look cf.nmI).1 hn
      refine getmeth_ok I1 hA (cf.cl c hc).cl (cf.meth c k f hf) hg ?_
      refine PySem.W.callWith_of (P := fun h => X.K.In h) ha.plain (fun h K => PySem.W.keeps_K (cf.df f d hd).1 h K) (thn (ha.run (.ref (G.fa f)) pins s1 σ H1 _ I1 (tAK_to (k := fun vs us m => callK G.P (run G.P n) f (x :: vs) kn us m) (Qa := fun vs zs H2 => ∃ xs ys m2 F2 R2, vs.length = as.length ∧ zs.length = bs.length ∧ SR (G.W X) Z F2 R2 m2 H2 ∧ Rel (G.W X) F2 R2 x (.ref a) ∧ Rels (G.W X) F2 R2 xs vs ∧ Rels (G.W X) F2 R2 ys zs ∧
        EPo (G.W X) Z (Rel (G.W X)) F2 R2 σ Q Wx (callK G.P (run G.P n) f (x :: xs) kn ys m2)) s1' h2' q1 fun vs zs H2 xs ys m2 F2 R2 e1 e2 l2 s2 r2 r3 q2 => ⟨xs, ys, m2, F2, R2, e1, e2, s2, r1.mono l2, r2, r3, q2⟩))
        fun a s2 ⟨us, ws, vs, zs, H2, ea, I2, ru, rz, xs, ys, m2, F2, R2, e1, e2, s2', r1, r2, r3, q2⟩ => ⟨I2.kIn, ?_⟩)
      subst ea
      refine go_df (us := .ref _ :: us) C hd (by rw [List.length_cons, ← ru.length, e1]; exact kb) (by rw [← rz.length, e2, hl]) I2 s2' (.cons r1 r2) (.cons rfl ru) r3 rz q2
    · exact q1.elim
  · exact q1.elim

/-! ### a new instance -/
theorem go_new (C : Cn G n X Wx) (cf : ClF G X.K) {p : List (Addr × Obj)} {s : Shared} {c f : Nat} {d : Df} {ks : List Str} {kn : List Nat} {as zs : List D} {vs us0 : List V} {us ws : List Value} (hi : G.P.init c = some f) (hf : G.P.df f = some d) (kb : KBd G X.K f (us.length + 1) ks kn) (hl : ws.length = ks.length)
    (I : Inv X p σ H s) (h1 : SR (G.W X) Z F R m H) (r : Rels (G.W X) F R as vs) (ru : Vals vs us) (rz : Rels (G.W X) F R zs us0) (rw_ : Vals us0 ws) (h : EPo (G.W X) Z (Rel (G.W X)) F R σ Q Wx (newD G.P (fun f as m => callK G.P (run G.P n) f as kn zs m) c as m)) :
    wpAny (model X.prog X.w) X.A (call (.ref (G.C c)) us (ks.zip ws)) (EP X p σ Q) X.xe s := by
  obtain ⟨M, _⟩ := cf.init c f hi
  unfold newD at h
  simp only [hi] at h
  have hx0 := I.hok.fresh (Nat.le_succ s.heap.objs.size)
  have hd0 := I.hok.fresh (Nat.le_refl s.heap.objs.size)
  have ne : s.heap.objs.size ≠ s.heap.objs.size + 1 := Nat.ne_of_lt (Nat.lt_succ_self _)
  have I2 := Inv.made (C := G.C c) I
  obtain ⟨t1, l1⟩ := h1.new (o := .own (s.heap.objs.size + 1)) hd0
  obtain ⟨t2, l2, e2⟩ := t1.num (p := s.heap.objs.size + 1) (o := .ins (G.C c) s.heap.objs.size []) (d := .ins c []) (by rw [upd_ne ne.symm]; exact hx0) (.ins .nil)
  unfold callK at h
  simp only [hf] at h
  split at h
  · rename_i as' eb
    have h' := EPo.bind (rel := Rel (G.W X)) (h.le (l1.trans l2))
    obtain ⟨us', hb, hr⟩ := kb _ (.ref (s.heap.objs.size + 1) :: us) ws I2.kIn rfl hl
    obtain ⟨vs', ra, rv⟩ := hr (G.W X) _ _ (.loc m.length :: as) zs as' (.ref (s.heap.objs.size + 1) :: vs) us0 d hf (.cons (.loc e2) (r.mono (l1.trans l2))) (.cons rfl ru) (rz.mono (l1.trans l2)) rw_ eb
    have hl' : vs'.length = (G.pn f).length := by rw [C.pnl f d hf, ← run_len hf h', ra.length]
    refine wpAny_call (make_map (f := G.fa f) I.kIn M.makes M.init (beq_iff_eq.mp M.fn) (codeAny_mono ((C.fns f d hf).run _ X.stack _ _ ⟨Value.ref (s.heap.objs.size + 1) :: us, ks.zip ws⟩ us' vs' _ (WE Wx σ) ((C.rm.make (G.C c) us (ks.zip ws)).mono (by omega))
      (I2.env0.make (G.C c) us (ks.zip ws)) hb rv ⟨hl', Z, _, _, as', _, t2, ra, h'.sig⟩) fun r s' hq' => ?_))
    cases r with
    | error e => exact passAt C.tk σ p _ _ e s' I2 hq'
    | ok fl =>
      cases fl with
      | ret u =>
        obtain ⟨v, H', I3, rv', x, m3, F3, R3, ex, l3, s3, rr, q3⟩ := I2.after hq'
        cases x <;> simp only at q3 <;> first | exact q3.elim | skip
        cases rr
        have er := l3.at e2
        rw [ex] at h
        simp only [Res.bind_ok] at h
        refine ⟨rv', ⟨V.ref (s.heap.objs.size + 1), H', I3, rfl, ?_⟩⟩
        split at h
        · exact h F3 R3 H' _ ((l1.trans l2).trans l3) s3 (.loc er)
        · split at h
          · rename_i o' m4 e5 e6
            have hb : m.length ≤ m3.length := by
              rw [← s3.len]
              exact Nat.le_of_lt (List.getElem?_eq_some_iff.mp er).1
            obtain ⟨f1, f2, _⟩ := freeze s3 hb e6
            exact h _ _ H' _ (((l1.trans l2).trans l3).freeze h1.len) f1 (f2 _ _ _ (.loc er) e5)
          · exact h.elim
      | next => exact False.elim hq'
      | brk => exact False.elim hq'
      | cont => exact False.elim hq'
  · exact h.elim
/-- C(..) -/
theorem e_new (C : Cn G n X Wx) (cf : ClF G X.K) {c f : Nat} {d : Df} {x : Str} {p pos : Pos} {es : List Expr} {kws : List Keyword} {ks : List Str} {kn : List Nat} {as bs : List E} (hi : G.P.init c = some f) (hf : G.P.df f = some d) (ha : PAK X es kws pos ks (tAK G n X Wx as bs)) (kb : KBd G X.K f (as.length + 1) ks kn) (hl : bs.length = ks.length)
    (hg : Gl X x) (hm : X.mg x = some (.ref (G.C c))) (hdb : (x == ("__debug__" : Str)) = false := by decide) : PE X (.Call (.Name x p) es kws pos) (tE G n X Wx (.new c as kn bs)) := by
  refine ⟨fun pins s σ H Q I ⟨Z, F, R, sl, m, h1, h2, h3⟩ => ?_⟩
  unfold evE at h3
  refine wpAny_Call_Name_kw (ld_glob I hg hm ?_ hdb)
  refine PySem.W.callWith_of (P := fun h => X.K.In h) ha.plain (fun h K => PySem.W.keeps_K (cf.init c f hi).1.kp h K) (thn (ha.run (.ref (G.C c)) pins s σ H _ I (tAK_to (k := fun vs us m => newD G.P (fun f as m => callK G.P (run G.P n) f as kn us m) c vs m) (Qa := fun vs zs H1 => ∃ xs ys m1 F1 R1, vs.length = as.length ∧ zs.length = bs.length ∧ SR (G.W X) Z F1 R1 m1 H1 ∧ Rels (G.W X) F1 R1 xs vs ∧ Rels (G.W X) F1 R1 ys zs ∧
    EPo (G.W X) Z (Rel (G.W X)) F1 R1 σ Q Wx (newD G.P (fun f as m => callK G.P (run G.P n) f as kn ys m) c xs m1)) h1 h2 h3 fun vs zs H1 xs ys m1 F1 R1 e1 e2 l1 s1 r1 r2 q1 => ⟨xs, ys, m1, F1, R1, e1, e2, s1, r1, r2, q1⟩))
    fun a s1 ⟨us, ws, vs, zs, H1, ea, I1, ru, rz, xs, ys, m1, F1, R1, e1, e2, s1', r1, r2, q1⟩ => ⟨I1.kIn, ?_⟩)
  subst ea
  exact go_new (us := us) C cf hi hf (by rw [← ru.length, e1]; exact kb) (by rw [← rz.length, e2, hl]) I1 s1' r1 ru r2 rz q1
end
end Pv

set_option Elab.async false
set_option linter.all false
set_option autoImplicit false
set_option maxRecDepth 100000
set_option maxHeartbeats 1000000
/-! PvK: targets, what is walked. -/
namespace Pv
open PySem PySem.Spec PyProof.Rows L2
section
variable {G : Gd} {n : Nat} {X : Cx} {Wx : WX} {σ : L2.St} {H : Hp} {Q : VK} {Z F : Hp} {R : List Addr} {m : Mu}

/-! ### targets -/
/-- only slots of l differ -/
def But (l : List Nat) (σ σ' : L2.St) : Prop := ∀ vs : List Nat, (∀ i ∈ l, i ∈ vs) → L2.wipe σ' vs = L2.wipe σ vs
theorem But.refl (l : List Nat) (σ : L2.St) : But l σ σ := fun _ _ => rfl
theorem But.trans {l : List Nat} {σ σ1 σ2 : L2.St} (a : But l σ σ1) (b : But l σ1 σ2) : But l σ σ2 := fun vs h => (b vs h).trans (a vs h)
theorem But.mono {l l' : List Nat} {σ σ1 : L2.St} (a : But l σ σ1) (h : ∀ i ∈ l, i ∈ l') : But l' σ σ1 := fun vs k => a vs fun i hi => k i (h i hi)
theorem wipe_set {σ : L2.St} {i : Nat} {o : Option V} : ∀ {vs : List Nat}, i ∈ vs → L2.wipe (σ.set i o) vs = L2.wipe σ vs
  | v :: vs, h => by
    show (L2.wipe (σ.set i o) vs).set v none = (L2.wipe σ vs).set v none
    by_cases q : i ∈ vs
    · rw [wipe_set q]
    · have e : v = i := by
        rcases List.mem_cons.mp h with e | e
        · exact e.symm
        · exact absurd e q
      subst e
      have gen : ∀ (vs : List Nat), v ∉ vs → L2.wipe (σ.set v o) vs = (L2.wipe σ vs).set v o := by
        intro vs
        induction vs with
        | nil => intro _; rfl
        | cons u us ih =>
          intro hn
          have h1 : v ≠ u := fun e => hn (e ▸ List.mem_cons_self)
          have h2 : v ∉ us := fun e => hn (List.mem_cons_of_mem _ e)
          show (L2.wipe (σ.set v o) us).set u none = ((L2.wipe σ us).set u none).set v o
          rw [ih h2, List.set_comm _ _ h1]
      rw [gen vs q, List.set_set]
theorem but_set {σ : L2.St} {i : Nat} {o : Option V} : But [i] σ (σ.set i o) := fun vs h => wipe_set (h i (by simp))
def tGt (G : Gd) (X : Cx) (t : Tg) : TG := fun v σ H Q => ∃ Z F R s m d s', SR (G.W X) Z F R m H ∧ RS' (G.W X) F R s σ ∧ Rel (G.W X) F R d v ∧ asgT m t d s = some s' ∧ ∀ σ', RS' (G.W X) F R s' σ' → But (tgIx t) σ σ' → Q σ' H
def tGts (G : Gd) (X : Cx) (ts : List Tg) : TGs := fun vs σ H Q => ∃ Z F R s m ds s', SR (G.W X) Z F R m H ∧ RS' (G.W X) F R s σ ∧ Rels (G.W X) F R ds vs ∧ asgTs m ts ds s = some s' ∧ ∀ σ', RS' (G.W X) F R s' σ' → But (tgIx.tgIxs ts) σ σ' → Q σ' H
theorem g_v {i : Nat} {x : Str} {pos : Pos} (hN : X.N.Nodup) (hi : X.N[i]? = some x) (hx : Loc X.env.scope x) (hf : X.fn x = true ∨ X.env.scope.names.lookup x = some .local) : PG X (.Name x pos) (tGt G X (.v i)) :=
  ⟨fun p s σ H v u Q I ru ⟨Z, F, R, sl, m, d, s', h1, h2, rd, e, hq⟩ => (pg_name hN hi hx hf).run p s σ H v u Q I ru (by
    unfold asgT at e
    cases e
    exact hq _ (h2.set rd) but_set)⟩
theorem gs_nil : PGs X [] (tGts G X []) :=
  ⟨fun p s σ H vs us Q I ru ⟨Z, F, R, sl, m, ds, s', h1, h2, rd, e, hq⟩ => pgs_nil.run p s σ H vs us Q I ru (by
    cases rd with
    | nil =>
      unfold asgTs at e
      cases e
      exact ⟨rfl, hq _ h2 (But.refl _ _)⟩
    | cons => unfold asgTs at e; cases e)⟩
theorem gs_cons {e : Expr} {es : List Expr} {t : Tg} {ts : List Tg} (h1 : PG X e (tGt G X t)) (h2 : PGs X es (tGts G X ts)) (hs : (assignEach (e :: es) X.env).map (·.2) = assign e X.env :: (assignEach es X.env).map (·.2) := by rfl) : PGs X (e :: es) (tGts G X (t :: ts)) :=
  ⟨fun p s σ H vs us Q I ru ⟨Z, F, R, sl, m, ds, s', k1, k2, rd, e, hq⟩ => (pgs_cons h1 h2 hs).run p s σ H vs us Q I ru (by
    cases rd with
    | nil => unfold asgTs at e; cases e
    | cons r rs =>
      unfold asgTs at e
      obtain ⟨s1, e1, e2⟩ := Option.bind_eq_some_iff.mp e
      refine ⟨_, _, rfl, Z, F, R, sl, m, _, s1, k1, k2, r, e1, fun σ1 k3 b1 => ⟨Z, F, R, s1, m, _, s', k1, k3, rs, e2, fun σ2 k4 b2 => hq σ2 k4 ?_⟩⟩
      exact (b1.mono (fun i hi => List.mem_append_left _ hi)).trans (b2.mono fun i hi => List.mem_append_right _ hi))⟩
theorem asgTs_len {m : Mu} : ∀ {ts : List Tg} {ds : List D} {s s' : Sl}, asgTs m ts ds s = some s' → ds.length = ts.length
  | [], [], _, _, _ => rfl
  | [], _ :: _, _, _, e => by unfold asgTs at e; cases e
  | _ :: _, [], _, _, e => by unfold asgTs at e; cases e
  | t :: ts, d :: ds, s, s', e => by
    unfold asgTs at e
    obtain ⟨s1, e1, e2⟩ := Option.bind_eq_some_iff.mp e
    rw [List.length_cons, List.length_cons, asgTs_len e2]
theorem g_tup {es : List Expr} {k : Nat} {ts : List Tg} {pos : Pos} (hc : X.calm = true) (h : PGs X es (tGts G X ts)) (hl : es.length = ts.length) (hn : (assignEach es X.env).length = es.length := by rfl) (hst : (assignEach es X.env).findIdx? (·.1) = none := by rfl) : PG X (.Tuple es k pos) (tGt G X (.tup ts)) :=
  ⟨fun p s σ H v u Q I ru ⟨Z, F, R, sl, m, d, s', h1, h2, rd, e, hq⟩ => (pg_tup hc h hn hst).run p s σ H v u Q I ru (by
    unfold asgT at e
    split at e
    · rename_i xs e1
      obtain ⟨a, vs, rfl, ha, ra⟩ := rd.tup_of h1 e1
      exact ⟨a, vs, rfl, ha, by rw [← ra.length, asgTs_len e, hl], Z, F, R, sl, m, xs, s', h1, h2, ra, e, fun σ' k b => hq σ' k b⟩
    · cases e)⟩

/-! ### what is walked -/
/-- J gives the items ds in turn, in every heap that holds F -/
def relW (W : Wl) (F : Hp) (R : List Addr) (ds : List D) (J : L2.It) : Prop := ∃ (Gd : Hp → Prop) (Y : Nat → Hp → V → Hp → Prop), Walk J ds.length Gd Y ∧ (∀ H, (∀ a o, F a = some o → H a = some o) → Gd H) ∧
  ∀ i H x H', i < ds.length → Y i H x H' → ∃ d, ds[i]? = some d ∧ ((H' = H ∧ Rel W F R d x) ∨ ∃ T vs es, x = .ref T ∧ H T = none ∧ H' = upd H T (.tup vs) ∧ d = .tup es ∧ Rels W F R es vs)
theorem relW.mono {W : Wl} {F F' : Hp} {R R' : List Addr} {ds : List D} {J : L2.It} (h : relW W F R ds J) (l : Le F R F' R') : relW W F' R' ds J := by
  obtain ⟨Gd, Y, w, hg, hy⟩ := h
  refine ⟨Gd, Y, w, fun H k => hg H fun a o e => k a o (l.ex a o e), fun i H x H' hi y => ?_⟩
  obtain ⟨d, e, h⟩ := hy i H x H' hi y
  refine ⟨d, e, ?_⟩
  rcases h with ⟨h1, h2⟩ | ⟨T, vs, es, h1, h2, h3, h4, h5⟩
  · exact .inl ⟨h1, h2.mono l⟩
  · exact .inr ⟨T, vs, es, h1, h2, h3, h4, h5.mono l⟩
theorem relW_tup {W : Wl} {a : Addr} {xs : List D} {vs : List V} (h : SqT W.K F a vs) (r : Rels W F R xs vs) : relW W F R xs (Itt W.K a) := by
  refine ⟨fun H => SqT W.K H a vs, YAt vs, by rw [r.length]; exact walk_tup, fun H k => sqT_mono k h, fun i H x H' hi ⟨e1, e2⟩ => ?_⟩
  have hv : i < xs.length := hi
  obtain ⟨v, e3, rv⟩ := r.get (i := i) (d := xs[i]) (List.getElem?_eq_getElem hv)
  rw [e3] at e2
  cases e2
  exact ⟨_, List.getElem?_eq_getElem hv, .inl ⟨e1, rv⟩⟩
theorem relW_lst {W : Wl} {a : Addr} {xs : List D} {vs : List V} (h : SqL W.K F a vs) (r : Rels W F R xs vs) : relW W F R xs (Itl W.K a) := by
  refine ⟨fun H => SqL W.K H a vs, YAt vs, by rw [r.length]; exact walk_list, fun H k => sqL_mono k h, fun i H x H' hi ⟨e1, e2⟩ => ?_⟩
  have hv : i < xs.length := hi
  obtain ⟨v, e3, rv⟩ := r.get (i := i) (d := xs[i]) (List.getElem?_eq_getElem hv)
  rw [e3] at e2
  cases e2
  exact ⟨_, List.getElem?_eq_getElem hv, .inl ⟨e1, rv⟩⟩
def tI (G : Gd) (n : Nat) (X : Cx) (Wx : WX) (it : Pv.It) : TI := fun σ H Qi => ∃ Z F R s m, SR (G.W X) Z F R m H ∧ RS' (G.W X) F R s σ ∧ EPo (G.W X) Z (relW (G.W X)) F R σ Qi Wx (evI G.P (run G.P n) it s m)
/-- for x in a tuple, a list -/
theorem i_seq {tg e : Expr} {a : E} (he : PE X e (tE G n X Wx a)) : PI X tg e (tI G n X Wx (.seq a)) := by
  refine ⟨fun pins s σ H Qi I ⟨Z, F, R, sl, m, h1, h2, h3⟩ => ?_⟩
  unfold evI at h3
  refine thn (he.run pins s σ H (fun v H1 => ∃ a, v = .ref a ∧ ((∃ xs, SqL X.K H1 a xs) ∧ Qi (Itl X.K a) H1 ∨ (∃ xs, SqT X.K H1 a xs) ∧ Qi (Itt X.K a) H1)) I ⟨Z, F, R, sl, m, h1, h2, (EPo.bind (rel := Rel (G.W X)) h3).imp ?_⟩) fun v s1 ⟨x, H1, I1, r1, q1⟩ => ?_
  · rintro v H1 ⟨x, m1, F1, R1, _, l1, s1, r1, q1⟩
    obtain ⟨ds, e, q1⟩ := ofOpt_of q1
    cases x <;> simp [itemsD] at e
    · subst e
      cases r1 with
      | tup h r => exact ⟨_, rfl, .inr ⟨⟨_, sqT_mono s1.ex h⟩, q1 F1 R1 H1 _ Le.refl s1 (relW_tup h r)⟩⟩
    · subst e
      cases r1 with
      | lst h r => exact ⟨_, rfl, .inl ⟨⟨_, SqL.of (s1.ex _ _ h)⟩, q1 F1 R1 H1 _ Le.refl s1 (relW_lst (SqL.of h) r)⟩⟩
  · obtain ⟨a, e, q1⟩ := q1
    subst e
    cases r1
    rcases q1 with ⟨⟨xs, hq⟩, q⟩ | ⟨⟨xs, hq⟩, q⟩
    · obtain ⟨its, rv, pl, hz⟩ := I1.list hq
      refine wpAny_pyIter_list pl.isList ⟨s1.heap.objs.size, [s1.heap.objs.size], _, _, H1, rfl, I1.kept (t' := s1.toks) fun b o e => Heap.get?_push_of_some _ e, turn_list a _, ⟨_, Heap.get?_push_size _ rfl, rfl, rfl⟩, fun b hb => ?_, q⟩
      obtain rfl : b = s1.heap.objs.size := by simpa using hb
      exact I1.fpOk (Nat.le_refl _) (I1.hok.fresh (Nat.le_refl _))
    · obtain ⟨its, rv, pl, hz⟩ := I1.tuple hq
      refine wpAny_pyIter_tuple (show s1.heap.IsTuple a its.toArray from pl) ⟨s1.heap.objs.size, [s1.heap.objs.size], _, _, H1, rfl, I1.kept (t' := s1.toks) fun b o e => Heap.get?_push_of_some _ e, turn_tuple a _, ⟨_, Heap.get?_push_size _ rfl, rfl, rfl⟩, fun b hb => ?_, q⟩
      obtain rfl : b = s1.heap.objs.size := by simpa using hb
      exact I1.fpOk (Nat.le_refl _) (I1.hok.fresh (Nat.le_refl _))
theorem relW_rng {W : Wl} {lo : Int} {k : Nat} {ds : List D} (h : ds = (List.range k).map fun i => D.int (lo + (i : Nat))) : relW W F R ds (Itr lo k) := by
  subst h
  refine ⟨fun _ => True, YFn fun i => .int (lo + i), by rw [List.length_map, List.length_range]; exact walk_range, fun _ _ => trivial, fun i H x H' hi ⟨e1, e2⟩ => ?_⟩
  have hi' : i < k := by simpa using hi
  refine ⟨.int (lo + i), by rw [List.getElem?_map, List.getElem?_range hi']; rfl, .inl ⟨e1, ?_⟩⟩
  rw [e2]
  exact .int _
theorem rngD_1 {x : D} {ds : List D} (h : rngD [x] = some ds) : ∃ j, x = .int j ∧ -(2 ^ 62) ≤ j ∧ j < 2 ^ 62 ∧ ds = (List.range j.toNat).map fun i => D.int ((0 : Int) + (i : Nat)) := by
  cases x with
  | int j =>
    simp only [rngD] at h
    by_cases hb : (decide (-(2 ^ 62) ≤ j) && decide (j < 2 ^ 62)) = true
    · rw [if_pos hb] at h
      simp only [Bool.and_eq_true, decide_eq_true_eq] at hb
      exact ⟨j, rfl, hb.1, hb.2, (Option.some.inj h).symm⟩
    · rw [if_neg hb] at h; cases h
  | _ => simp [rngD] at h
theorem rngD_2 {x y : D} {ds : List D} (h : rngD [x, y] = some ds) : ∃ i j, x = .int i ∧ y = .int j ∧ (-(2 ^ 62) ≤ i ∧ i < 2 ^ 62 ∧ -(2 ^ 62) ≤ j ∧ j < 2 ^ 62) ∧ ds = (List.range (j - i).toNat).map fun k => D.int (i + (k : Nat)) := by
  cases x with
  | int i =>
    cases y with
    | int j =>
      simp only [rngD] at h
      by_cases hb : ((decide (-(2 ^ 62) ≤ i) && decide (i < 2 ^ 62)) && (decide (-(2 ^ 62) ≤ j) && decide (j < 2 ^ 62))) = true
      · rw [if_pos hb] at h
        simp only [Bool.and_eq_true, decide_eq_true_eq] at hb
        exact ⟨i, j, rfl, rfl, ⟨hb.1.1, hb.1.2, hb.2.1, hb.2.2⟩, (Option.some.inj h).symm⟩
      · rw [if_neg hb] at h; cases h
    | _ => simp [rngD] at h
  | _ => simp [rngD] at h
theorem i_rng1 {tg a : Expr} {a' : E} {p pos : Pos} (hg : Gl X "range") (hm : X.mg "range" = none) (ha : PA X [a] (tL G n X Wx [a'])) (hs : starEach [a] X.env = [(false, eval a X.env)] := by rfl) : PI X tg (.Call (.Name "range" p) [a] [] pos) (tI G n X Wx (.rng [a'])) := by
  refine ⟨fun pins s σ H Qi I ⟨Z, F, R, sl, m, h1, h2, h3⟩ => ?_⟩
  unfold evI at h3
  refine (pi_range1 hg hm ha hs).run pins s σ H Qi I ⟨Z, F, R, sl, m, h1, h2, (EPo.bind (rel := Rels (G.W X)) h3).imp ?_⟩
  rintro vs H1 ⟨xs, m1, F1, R1, ex, l1, s1, r1, q1⟩
  obtain ⟨ds, e, q1⟩ := ofOpt_of q1
  have hl := evL_len ex
  match xs, r1, hl, e, q1 with
  | [x], .cons r .nil, _, e, q1 =>
    obtain ⟨j, rfl, b1, b2, e⟩ := rngD_1 e
    cases r
    exact ⟨j, rfl, b1, b2, q1 F1 R1 H1 _ Le.refl s1 (relW_rng e)⟩
theorem i_rng2 {tg a b : Expr} {a' b' : E} {p pos : Pos} (hg : Gl X "range") (hm : X.mg "range" = none) (ha : PA X [a, b] (tL G n X Wx [a', b'])) (hs : starEach [a, b] X.env = [(false, eval a X.env), (false, eval b X.env)] := by rfl) (hs2 : starEach [b] X.env = [(false, eval b X.env)] := by rfl) : PI X tg (.Call (.Name "range" p) [a, b] [] pos) (tI G n X Wx (.rng [a', b'])) := by
  refine ⟨fun pins s σ H Qi I ⟨Z, F, R, sl, m, h1, h2, h3⟩ => ?_⟩
  unfold evI at h3
  refine (pi_range2 hg hm ha hs hs2).run pins s σ H Qi I ⟨Z, F, R, sl, m, h1, h2, (EPo.bind (rel := Rels (G.W X)) h3).imp ?_⟩
  rintro vs H1 ⟨xs, m1, F1, R1, ex, l1, s1, r1, q1⟩
  obtain ⟨ds, e, q1⟩ := ofOpt_of q1
  have hl := evL_len ex
  match xs, r1, hl, e, q1 with
  | [x, y], .cons r (.cons r2 .nil), _, e, q1 =>
    obtain ⟨i, j, rfl, rfl, hb, e⟩ := rngD_2 e
    cases r
    cases r2
    exact ⟨i, j, rfl, hb, q1 F1 R1 H1 _ Le.refl s1 (relW_rng e)⟩
end
end Pv

set_option Elab.async false
set_option linter.all false
set_option autoImplicit false
set_option maxRecDepth 100000
set_option maxHeartbeats 1000000
/-! PvL: list comprehensions. -/
namespace Pv
open PySem PySem.Spec PyProof.Rows L2
/-- no exception -/
abbrev W0 : WX := fun _ _ _ _ => False
section
variable {G : Gd} {n : Nat} {X : Cx} {Wx : WX} {σ : L2.St} {H : Hp} {Q : VK} {Z F : Hp} {R : List Addr} {m : Mu}
theorem Cn.blk (C : Cn G n X Wx) (s : Shared) (H : Hp) (scope : Scope) (D : Addr) (cl : List (Str × Addr)) (fp : List Addr) : Cn G n (X.blk s H scope (compEnvC scope cl D X.env) fp) W0 :=
  ⟨C.calm, C.nd, takes_none5, PassesOwn.never, C.rm, C.xf, C.pnl, C.fns⟩
def tTs (G : Gd) (n : Nat) (X : Cx) (Wx : WX) (as : List E) : TT := fun σ H Q => ∃ Z F R s m, SR (G.W X) Z F R m H ∧ RS' (G.W X) F R s σ ∧ EPo (G.W X) Z relB F R σ Q Wx (evT G.P (run G.P n) as s m)
theorem ts_nil : PTs X [] (tTs G n X Wx []) :=
  ⟨fun p s σ H Q I ⟨Z, F, R, sl, m, h1, h2, h3⟩ => pts_nil.run p s σ H Q I (h3 F R H true Le.refl h1 rfl)⟩
theorem ts_one {c : Expr} {c' : E} (h : PT X c (tT G n X Wx c')) : PTs X [c] (tTs G n X Wx [c']) := by
  refine ⟨fun p s σ H Q I ⟨Z, F, R, sl, m, h1, h2, h3⟩ => ?_⟩
  refine (pts_one h).run p s σ H Q I ⟨Z, F, R, sl, m, h1, h2, ?_⟩
  unfold evT at h3
  unfold evTr
  cases e1 : evE G.P (run G.P n) c' sl m with
  | ok x m1 =>
    rw [e1] at h3
    simp only [Res.bind_ok] at h3 ⊢
    cases e2 : truI G.P (run G.P n) x m1 with
    | ok k m2 =>
      rw [e2] at h3
      rintro F2 R2 H2 v l2 s2 rfl
      cases k with
      | true => exact h3 F2 R2 H2 true l2 s2 rfl
      | false => exact h3 F2 R2 H2 false l2 s2 rfl
    | exc c fs m1 => rw [e2] at h3; exact h3
    | stuck => rw [e2] at h3; exact h3.elim
  | exc c fs m1 => rw [e1] at h3; exact h3
  | stuck => rw [e1] at h3; exact h3.elim
/-- r comes to its end, as no exception may be -/
theorem nox_end {α β γ δ : Type} {W : Wl} {Z2 F1 F : Hp} {R1 R : List Addr} {rel : Hp → List Addr → α → β → Prop} {rel2 : Hp → List Addr → γ → δ → Prop} {Q2 : δ → Hp → Prop} {r : Res α} {k : α → Mu → Res γ} (h : EPo W Z rel2 F1 R1 σ Q2 Wx ((r.bind k).nox)) {σ2 : L2.St} {W2 : WX} {Qa : β → Hp → Prop}
    (hk : ∀ a m F' R' H' v, r = .ok a m → Le F R F' R' → SR W Z2 F' R' m H' → rel F' R' a v → EPo W Z rel2 F1 R1 σ Q2 Wx ((k a m).nox) → Qa v H') : EPo W Z2 rel F R σ2 Qa W2 r := by
  cases r with
  | ok a m => exact fun F' R' H' v l s rv => hk a m F' R' H' v rfl l s rv h
  | exc c fs m => exact h.elim
  | stuck => exact h.elim
theorem lt_of_big {k : Nat} (h : big k = true) : k < sizeLine := by
  rw [sizeLine_eq]
  have := of_decide_eq_true h
  omega
/-- a walk whose turns are as Pv says, for a loop within a comprehension -/
theorem lc_go {J : L2.It} {k : Nat} {Gd' : Hp → Prop} {Y : Nat → Hp → V → Hp → Prop} (w : Walk J k Gd' Y) {H1 : Hp} {Qd : Hp → Prop} {B : (Hp → Prop) → V → Hp → Prop} (Pv : Nat → Hp → Prop) (h0 : Pv 0 H1) (hG : ∀ i H, i ≤ k → Pv i H → Gd' H)
    (hs : ∀ i x H H', i < k → Pv i H → Y i H x H' → B (Pv (i + 1)) x H') (hd : ∀ H, Pv k H → Qd H) :
    ∃ W : Nat → Nat → Hp → Prop, (∃ m, W 0 m H1) ∧ ∀ i m H, W i m H →
      (J.stop i H ∧ Qd H) ∨ (J.go i H ∧ ∃ Nx : Hp → Prop, (∀ H', Nx H' → ∃ m', m' < m ∧ W (i + 1) m' H') ∧ ∀ x H', J.yld i H x H' → B Nx x H') := by
  refine ⟨fun i m H => m = k - i ∧ i ≤ k ∧ Pv i H, ⟨k, by simp, Nat.zero_le _, h0⟩, ?_⟩
  rintro i m H ⟨rfl, hi, p⟩
  have q := hG i H hi p
  by_cases hlt : i < k
  · exact .inr ⟨w.goes i H hlt q, Pv (i + 1), fun H' p' => ⟨k - (i + 1), by omega, rfl, hlt, p'⟩, fun x H' y => hs i x H H' hlt p (w.yields i H x H' hlt q y)⟩
  · have e : i = k := by omega
    subst e
    exact .inl ⟨w.stops H q, hd H p⟩
/-- what a walk yields stands by a number of ours, or for good -/
theorem yld_SR {W : Wl} {Z F : Hp} {R : List Addr} {m : Mu} {H H' : Hp} {d : D} {x : V} (s : SR W Z F R m H) (h : (H' = H ∧ Rel W F R d x) ∨ ∃ T vs es, x = .ref T ∧ H T = none ∧ H' = upd H T (.tup vs) ∧ d = .tup es ∧ Rels W F R es vs) :
    ∃ F', Le F R F' R ∧ SR W Z F' R m H' ∧ Rel W F' R d x := by
  rcases h with ⟨rfl, r⟩ | ⟨T, vs, es, rfl, h2, rfl, rfl, r⟩
  · exact ⟨F, Le.refl, s, r⟩
  · obtain ⟨s2, l⟩ := s.new (o := .tup vs) h2
    exact ⟨_, l, s2, .tup (.inl (.inl upd_same)) (r.mono l)⟩
theorem wipe_wipe : ∀ (vs : List Nat) (σ : L2.St), L2.wipe (L2.wipe σ vs) vs = L2.wipe σ vs := by
  intro vs
  have gen : ∀ (us vs : List Nat) (σ : L2.St), (∀ i ∈ us, i ∈ vs) → L2.wipe (L2.wipe σ us) vs = L2.wipe σ vs := by
    intro us
    induction us with
    | nil => intro vs σ _; rfl
    | cons u us ih =>
      intro vs σ hs
      show L2.wipe ((L2.wipe σ us).set u none) vs = _
      rw [wipe_set (hs u List.mem_cons_self), ih vs σ fun i hi => hs i (List.mem_cons_of_mem _ hi)]
  exact fun σ => gen vs vs σ fun _ h => h
/-- one turn's part -/
def oneP (P : Pr) (call : Cal) (e : E) (t : Tg) (ifs : List E) (s : Sl) (d : D) (m : Mu) : Res (Option D) := match asgT m t d (wipeA s (tgIx t)) with
  | some s2 => (evT P call ifs s2 m).bind fun b m => if b then (evE P call e s2 m).bind fun y m => .ok (some y) m else .ok none m
  | none => .stuck
theorem drop_of {α : Type} {l : List α} {i : Nat} {d : α} (h : l[i]? = some d) : l.drop i = d :: l.drop (i + 1) := by
  obtain ⟨h1, h2⟩ := List.getElem?_eq_some_iff.mp h
  rw [List.drop_eq_getElem_cons h1, h2]
/-- a turn of a comprehension: the tests, the item; what follows is told by N -/
theorem turn_ok {X' : Cx} (hX : G.W X' = G.W X) {tt : TT} {te : TE} {e : E} {ifs : List E} (ett : tt = tTs G n X' W0 ifs) (ete : te = tE G n X' W0 e) {F1 : Hp} {R1 : List Addr} {s2 : Sl} {σ2 : L2.St} {D : Addr} {acc : List Pv.D} {accV : List V} {γ δ : Type} {rel2 : Hp → List Addr → γ → δ → Prop} {Q2 : δ → Hp → Prop} {kk : List Pv.D → Mu → Res γ}
    (s1 : SR (G.W X) (upd Z D (.lst accV)) F R m H) (k2 : RS' (G.W X) F R s2 σ2) (ra : Rels (G.W X) F R acc accV)
    (h : EPo (G.W X) Z rel2 F1 R1 σ Q2 Wx ((((evT G.P (run G.P n) ifs s2 m).bind fun b m => if b then (evE G.P (run G.P n) e s2 m).bind fun y m => .ok (some y) m else .ok none m).bind fun o m => match o with
      | some y => .when (big acc.length) (kk (acc ++ [y]) m)
      | none => kk acc m).nox)) {N : Hp → Prop}
    (hN : ∀ F' R' m' H' acc' accV', Le F R F' R' → SR (G.W X) (upd Z D (.lst accV')) F' R' m' H' → Rels (G.W X) F' R' acc' accV' → EPo (G.W X) Z rel2 F1 R1 σ Q2 Wx ((kk acc' m').nox) → N H') :
    tt σ2 H fun b H3 => if b = true then te σ2 H3 fun y H4 => ∃ acc, H4 D = some (.lst acc) ∧ acc.length < sizeLine ∧ N (upd H4 D (.lst (acc ++ [y]))) else N H3 := by
  subst ett ete
  refine ⟨upd Z D (.lst accV), F, R, s2, m, by rw [hX]; exact s1, by rw [hX]; exact k2, ?_⟩
  rw [hX]
  cases e1 : evT G.P (run G.P n) ifs s2 m with
  | exc => rw [e1] at h; exact h.elim
  | stuck => rw [e1] at h; exact h.elim
  | ok b m2 =>
    rw [e1] at h
    simp only [Res.bind_ok] at h
    rintro F2 R2 H2 b' l2 s3 rfl
    cases b with
    | false =>
      rw [if_neg (by decide)] at h ⊢
      simp only [Res.bind_ok] at h
      exact hN F2 R2 m2 H2 acc accV l2 s3 (ra.mono l2) h
    | true =>
      rw [if_pos rfl] at h ⊢
      refine ⟨upd Z D (.lst accV), F2, R2, s2, m2, by rw [hX]; exact s3, by rw [hX]; exact k2.mono l2, ?_⟩
      rw [hX]
      cases e2 : evE G.P (run G.P n) e s2 m2 with
      | exc => rw [e2] at h; exact h.elim
      | stuck => rw [e2] at h; exact h.elim
      | ok y m3 =>
        rw [e2] at h
        simp only [Res.bind_ok] at h
        intro F3 R3 H3 v l3 s4 rv
        cases hb : big acc.length with
        | false => rw [hb] at h; exact h.elim
        | true =>
          rw [hb] at h
          have rl := ra.mono (l2.trans l3)
          exact ⟨accV, (s4.gh D _ upd_same).1, by rw [← rl.length]; exact lt_of_big hb, hN F3 R3 m3 _ (acc ++ [y]) (accV ++ [v]) (l2.trans l3) s4.ghostPut (rl.append (.cons rv .nil)) h⟩

theorem comp_read {it : Pv.It} {e : E} {t : Tg} {ifs : List E} {k : Bool} (h1 : SR (G.W X) Z F R m H) {sl : Sl} (h2 : RS' (G.W X) F R sl σ) (h3 : EPo (G.W X) Z (Rel (G.W X)) F R σ Q Wx (evE G.P (run G.P n) (.comp k e t it ifs) sl m)) :
    tLc (tI G n X Wx it) (tGt G X t) (tTs G n X W0 ifs) (tE G n X W0 e) (tgIx t) σ H Q := by
  unfold evE at h3
  refine ⟨Z, F, R, sl, m, h1, h2, (EPo.bind (rel := relW (G.W X)) h3).imp ?_⟩
  rintro J H1 ⟨ds, m1, F1, R1, _, l1, s1, ⟨Gd', Y, w, hG, hY⟩, q1⟩
  intro D hD
  obtain ⟨sg, zl⟩ := s1.ghost (o := .lst []) hD
  have zD : Z D = none := by
    cases e0 : Z D with
    | none => rfl
    | some u => rw [(s1.gh D u e0).1] at hD; cases hD
  have h2' := h2.mono l1
  refine lc_go (B := fun Nx x H' => tGt G X t x (L2.wipe σ (tgIx t)) H' fun σ2 H2 => L2.wipe σ2 (tgIx t) = L2.wipe σ (tgIx t) ∧ tTs G n X W0 ifs σ2 H2 fun b H3 => if b = true then tE G n X W0 e σ2 H3 fun y H4 => ∃ acc, H4 D = some (.lst acc) ∧ acc.length < sizeLine ∧ Nx (upd H4 D (.lst (acc ++ [y]))) else Nx H3)
    w (fun i H => ∃ F' R' m' acc accV, Le F1 R1 F' R' ∧ SR (G.W X) (upd Z D (.lst accV)) F' R' m' H ∧ Rels (G.W X) F' R' acc accV ∧
      EPo (G.W X) Z (Rel (G.W X)) F1 R1 σ Q Wx (((compL (oneP G.P (run G.P n) e t ifs sl) (ds.drop i) acc m').bind fun vs m => mk k m (.lst vs)).nox))
    ⟨F1, R1, m1, [], [], Le.refl, sg, .nil, q1⟩ (fun i H _ ⟨F', R', m', acc, accV, l, s, _⟩ => hG H fun a o h => s.ex a o (l.ex a o h)) ?_ ?_
  · rintro i x H H' hi ⟨F', R', m', acc, accV, l, s, ra, q⟩ hy
    obtain ⟨d, ed, hd⟩ := hY i H x H' hi hy
    have hd' : (H' = H ∧ Rel (G.W X) F' R' d x) ∨ ∃ T vs es, x = .ref T ∧ H T = none ∧ H' = upd H T (.tup vs) ∧ d = .tup es ∧ Rels (G.W X) F' R' es vs := by
      rcases hd with ⟨a, b⟩ | ⟨T, vs, es, a, b, c, d, e⟩
      · exact .inl ⟨a, b.mono l⟩
      · exact .inr ⟨T, vs, es, a, b, c, d, e.mono l⟩
    obtain ⟨F2, l2, s2, rd⟩ := yld_SR s hd'
    rw [drop_of ed] at q
    unfold compL oneP at q
    cases ea : asgT m' t d (wipeA sl (tgIx t)) with
    | none => simp only [ea] at q; exact q.elim
    | some s3 =>
      simp only [ea] at q
      refine ⟨upd Z D (.lst accV), F2, R', wipeA sl (tgIx t), m', d, s3, s2, (h2'.mono (l.trans l2)).wipe _, rd, ea, fun σ2 k2 bt => ⟨?_, ?_⟩⟩
      · rw [bt (tgIx t) fun _ h => h]
        exact wipe_wipe _ _
      · refine turn_ok (kk := fun acc m => (compL (oneP G.P (run G.P n) e t ifs sl) (ds.drop (i + 1)) acc m).bind fun vs m => mk k m (.lst vs)) rfl rfl rfl s2 k2 (ra.mono l2) (σ := σ) (Q2 := Q) (F1 := F1) (R1 := R1) (rel2 := Rel (G.W X)) ?_ fun F3 R3 m3 H3 acc' accV' l3 s3 ra3 q3 => ⟨F3, R3, m3, acc', accV', (l.trans l2).trans l3, s3, ra3, q3⟩
        cases e1 : (evT G.P (run G.P n) ifs s3 m').bind fun b m => if b then (evE G.P (run G.P n) e s3 m).bind fun y m => .ok (some y) m else .ok none m with
        | exc => rw [e1] at q; exact q.elim
        | stuck => rw [e1] at q; exact q.elim
        | ok o m4 =>
          rw [e1] at q
          simp only [Res.bind_ok] at q ⊢
          cases o with
          | none => exact q
          | some y =>
            simp only at q ⊢
            cases hb : big acc.length with
            | false => rw [hb] at q; exact q.elim
            | true => rw [hb] at q; exact q
  · rintro H ⟨F', R', m', acc, accV, l, s, ra, q⟩
    rw [List.drop_length] at q
    unfold compL at q
    simp only [Res.bind_ok] at q
    cases k with
    | false =>
      obtain ⟨s2, l2⟩ := s.adopt zD
      exact q _ _ H _ (l.trans l2) s2 (.lst upd_same (ra.mono l2))
    | true =>
      obtain ⟨s2, l2, e2⟩ := s.adoptN zD (d := .lst acc) (.lst ra)
      exact q _ _ H _ (l.trans l2) s2 (.loc e2)
theorem e_comp (C : Cn G n X Wx) {elt tg iter : Expr} {ifs : List Expr} {scope : Scope} {own : List (Str × Nat)} {pos : Pos} {k : Bool} {e' : E} {t : Tg} {it : Pv.It} {ifs' : List E} (hi : PI X tg iter (tI G n X Wx it)) (ok : BlkOk X.N X.env.scope scope own) (hv : own.map (·.2) = tgIx t)
    (hg : ∀ (s : Shared) (H : Hp) (D : Addr) (cl : List (Str × Addr)) (fp : List Addr), PG (X.blk s H scope (compEnvC scope cl D X.env) fp) tg (tGt G (X.blk s H scope (compEnvC scope cl D X.env) fp) t)) (ht : ∀ (s : Shared) (H : Hp) (D : Addr) (cl : List (Str × Addr)) (fp : List Addr), PTs (X.blk s H scope (compEnvC scope cl D X.env) fp) ifs (tTs G n (X.blk s H scope (compEnvC scope cl D X.env) fp) W0 ifs'))
    (he : ∀ (s : Shared) (H : Hp) (D : Addr) (cl : List (Str × Addr)) (fp : List Addr), PE (X.blk s H scope (compEnvC scope cl D X.env) fp) elt (tE G n (X.blk s H scope (compEnvC scope cl D X.env) fp) W0 e')) (hs : ∀ x, foldedSetIterable iter X.env x = pure x := by intro _; rfl) :
    PE X (.ListComp elt [⟨tg, iter, ifs, 0⟩] scope pos) (tE G n X Wx (.comp k e' t it ifs')) := by
  refine ⟨fun p s σ H Q I ⟨Z, F, R, sl, m, h1, h2, h3⟩ => ?_⟩
  refine (pe_lc C.calm C.nd hi ok (g := tGt G X t) (tt := tTs G n X W0 ifs') (te := tE G n X W0 e') hg ht he hs).run p s σ H Q I ?_
  rw [hv]
  exact comp_read h1 h2 h3

/-! ### two clauses -/
def twoP (P : Pr) (call : Cal) (e : E) (t : Tg) (ifs : List E) (t2 : Tg) (it2 : Pv.It) (ifs2 : List E) (s : Sl) (d : Pv.D) (acc : List Pv.D) (m : Mu) : Res (List Pv.D) := match asgT m t d (wipeA s (tgIx t ++ tgIx t2)) with
  | some s2 => (evT P call ifs s2 m).bind fun b m => if b then (evI P call it2 s2 m).bind fun ds2 m => compL (oneP P call e t2 ifs2 s2) ds2 acc m else .ok acc m
  | none => .stuck
theorem comp2_read {it it2 : Pv.It} {e : E} {t t2 : Tg} {ifs ifs2 : List E} {k : Bool} (h1 : SR (G.W X) Z F R m H) {sl : Sl} (h2 : RS' (G.W X) F R sl σ) (h3 : EPo (G.W X) Z (Rel (G.W X)) F R σ Q Wx (evE G.P (run G.P n) (.comp2 k e t it ifs t2 it2 ifs2) sl m)) :
    tLc2 (tI G n X Wx it) (tGt G X t) (tTs G n X W0 ifs) (tI G n X W0 it2) (tGt G X t2) (tTs G n X W0 ifs2) (tE G n X W0 e) (tgIx t ++ tgIx t2) (tgIx t2) σ H Q := by
  unfold evE at h3
  refine ⟨Z, F, R, sl, m, h1, h2, (EPo.bind (rel := relW (G.W X)) h3).imp ?_⟩
  rintro J H1 ⟨ds, m1, F1, R1, _, l1, s1, ⟨Gd', Y, w, hG, hY⟩, q1⟩
  intro D hD
  obtain ⟨sg, zl⟩ := s1.ghost (o := .lst []) hD
  have zD : Z D = none := by
    cases e0 : Z D with
    | none => rfl
    | some u => rw [(s1.gh D u e0).1] at hD; cases hD
  have h2' := h2.mono l1
  refine lc_go (B := fun Nx x H' => tGt G X t x (L2.wipe σ (tgIx t ++ tgIx t2)) H' fun σ2 H2 => L2.wipe σ2 (tgIx t ++ tgIx t2) = L2.wipe σ (tgIx t ++ tgIx t2) ∧ tTs G n X W0 ifs σ2 H2 fun b H3 => if b = true then tI G n X W0 it2 σ2 H3 fun J1 H4 => ∃ W1 : Nat → Nat → Hp → Prop, (∃ m, W1 0 m H4) ∧ ∀ j k H, W1 j k H →
      (J1.stop j H ∧ Nx H) ∨ (J1.go j H ∧ ∃ Nx1 : Hp → Prop, (∀ H', Nx1 H' → ∃ k', k' < k ∧ W1 (j + 1) k' H') ∧ ∀ x H', J1.yld j H x H' → tGt G X t2 x (L2.wipe σ2 (tgIx t2)) H' fun σ3 H5 => L2.wipe σ3 (tgIx t2) = L2.wipe σ2 (tgIx t2) ∧ tTs G n X W0 ifs2 σ3 H5 fun b H6 =>
        if b = true then tE G n X W0 e σ3 H6 fun y H7 => ∃ acc, H7 D = some (.lst acc) ∧ acc.length < sizeLine ∧ Nx1 (upd H7 D (.lst (acc ++ [y]))) else Nx1 H6)
    else Nx H3)
    w (fun i H => ∃ F' R' m' acc accV, Le F1 R1 F' R' ∧ SR (G.W X) (upd Z D (.lst accV)) F' R' m' H ∧ Rels (G.W X) F' R' acc accV ∧
      EPo (G.W X) Z (Rel (G.W X)) F1 R1 σ Q Wx (((compLL (twoP G.P (run G.P n) e t ifs t2 it2 ifs2 sl) (ds.drop i) acc m').bind fun vs m => mk k m (.lst vs)).nox))
    ⟨F1, R1, m1, [], [], Le.refl, sg, .nil, q1⟩ (fun i H _ ⟨F', R', m', acc, accV, l, s, _⟩ => hG H fun a o h => s.ex a o (l.ex a o h)) ?_ ?_
  · rintro i x H H' hi ⟨F', R', m', acc, accV, l, s, ra, q⟩ hy
    obtain ⟨d, ed, hd⟩ := hY i H x H' hi hy
    have hd' : (H' = H ∧ Rel (G.W X) F' R' d x) ∨ ∃ T vs es, x = .ref T ∧ H T = none ∧ H' = upd H T (.tup vs) ∧ d = .tup es ∧ Rels (G.W X) F' R' es vs := by
      rcases hd with ⟨a, b⟩ | ⟨T, vs, es, a, b, c, d, e⟩
      · exact .inl ⟨a, b.mono l⟩
      · exact .inr ⟨T, vs, es, a, b, c, d, e.mono l⟩
    obtain ⟨F2, l2, s2, rd⟩ := yld_SR s hd'
    rw [drop_of ed] at q
    unfold compLL twoP at q
    cases ea : asgT m' t d (wipeA sl (tgIx t ++ tgIx t2)) with
    | none => simp only [ea] at q; exact q.elim
    | some s3 =>
      simp only [ea] at q
      refine ⟨upd Z D (.lst accV), F2, R', wipeA sl (tgIx t ++ tgIx t2), m', d, s3, s2, (h2'.mono (l.trans l2)).wipe _, rd, ea, fun σ2 k2 bt => ⟨?_, ?_⟩⟩
      · rw [bt (tgIx t ++ tgIx t2) fun _ h => List.mem_append_left _ h, wipe_wipe]
      · refine ⟨upd Z D (.lst accV), F2, R', s3, m', s2, k2, ?_⟩
        cases e1 : evT G.P (run G.P n) ifs s3 m' with
        | exc => rw [e1] at q; exact q.elim
        | stuck => rw [e1] at q; exact q.elim
        | ok b m2 =>
          rw [e1] at q
          simp only [Res.bind_ok] at q
          rintro F3 R3 H3 b' l3 s3' rfl
          cases b with
          | false =>
            rw [if_neg (by decide)] at q ⊢
            simp only [Res.bind_ok] at q
            exact ⟨F3, R3, m2, acc, accV, (l.trans l2).trans l3, s3', ra.mono (l2.trans l3), q⟩
          | true =>
            rw [if_pos rfl] at q ⊢
            refine ⟨upd Z D (.lst accV), F3, R3, s3, m2, s3', k2.mono l3, ?_⟩
            cases e2 : evI G.P (run G.P n) it2 s3 m2 with
            | exc => rw [e2] at q; exact q.elim
            | stuck => rw [e2] at q; exact q.elim
            | ok ds2 m3 =>
              rw [e2] at q
              simp only [Res.bind_ok] at q
              rintro F4 R4 H4 J1 l4 s4 ⟨Gd2, Y2, w2, hG2, hY2⟩
              have k4 := k2.mono (l3.trans l4)
              refine lc_go (B := fun Nx1 x H' => tGt G X t2 x (L2.wipe σ2 (tgIx t2)) H' fun σ3 H5 => L2.wipe σ3 (tgIx t2) = L2.wipe σ2 (tgIx t2) ∧ tTs G n X W0 ifs2 σ3 H5 fun b H6 =>
                  if b = true then tE G n X W0 e σ3 H6 fun y H7 => ∃ acc, H7 D = some (.lst acc) ∧ acc.length < sizeLine ∧ Nx1 (upd H7 D (.lst (acc ++ [y]))) else Nx1 H6)
                w2 (fun j H => ∃ F' R' m' acc accV, Le F4 R4 F' R' ∧ SR (G.W X) (upd Z D (.lst accV)) F' R' m' H ∧ Rels (G.W X) F' R' acc accV ∧
                  EPo (G.W X) Z (Rel (G.W X)) F1 R1 σ Q Wx ((((compL (oneP G.P (run G.P n) e t2 ifs2 s3) (ds2.drop j) acc m').bind fun acc m => compLL (twoP G.P (run G.P n) e t ifs t2 it2 ifs2 sl) (ds.drop (i + 1)) acc m).bind fun vs m => mk k m (.lst vs)).nox))
                ⟨F4, R4, m3, acc, accV, Le.refl, s4, ra.mono (l2.trans (l3.trans l4)), q⟩ (fun i H _ ⟨F', R', m', acc, accV, l, s, _⟩ => hG2 H fun a o h => s.ex a o (l.ex a o h)) ?_ ?_
              · rintro j x H H' hj ⟨F5, R5, m5, acc, accV, l5, s5, ra5, q5⟩ hy
                obtain ⟨d, ed, hd⟩ := hY2 j H x H' hj hy
                have hd' : (H' = H ∧ Rel (G.W X) F5 R5 d x) ∨ ∃ T vs es, x = .ref T ∧ H T = none ∧ H' = upd H T (.tup vs) ∧ d = .tup es ∧ Rels (G.W X) F5 R5 es vs := by
                  rcases hd with ⟨a, b⟩ | ⟨T, vs, es, a, b, c, d, e⟩
                  · exact .inl ⟨a, b.mono l5⟩
                  · exact .inr ⟨T, vs, es, a, b, c, d, e.mono l5⟩
                obtain ⟨F6, l6, s6, rd⟩ := yld_SR s5 hd'
                rw [drop_of ed] at q5
                unfold compL oneP at q5
                cases ea2 : asgT m5 t2 d (wipeA s3 (tgIx t2)) with
                | none => simp only [ea2] at q5; exact q5.elim
                | some s7 =>
                  simp only [ea2] at q5
                  refine ⟨upd Z D (.lst accV), F6, R5, wipeA s3 (tgIx t2), m5, d, s7, s6, (k4.mono (l5.trans l6)).wipe _, rd, ea2, fun σ3 k3 bt3 => ⟨?_, ?_⟩⟩
                  · rw [bt3 (tgIx t2) fun _ h => h, wipe_wipe]
                  · refine turn_ok (kk := fun acc m => ((compL (oneP G.P (run G.P n) e t2 ifs2 s3) (ds2.drop (j + 1)) acc m).bind fun acc m => compLL (twoP G.P (run G.P n) e t ifs t2 it2 ifs2 sl) (ds.drop (i + 1)) acc m).bind fun vs m => mk k m (.lst vs)) rfl rfl rfl s6 k3 (ra5.mono l6) (σ := σ) (Q2 := Q) (F1 := F1) (R1 := R1) (rel2 := Rel (G.W X)) ?_ fun F7 R7 m7 H7 acc' accV' l7 s8 ra7 q7 => ⟨F7, R7, m7, acc', accV', (l5.trans l6).trans l7, s8, ra7, q7⟩
                    cases e1 : (evT G.P (run G.P n) ifs2 s7 m5).bind fun b m => if b then (evE G.P (run G.P n) e s7 m).bind fun y m => .ok (some y) m else .ok none m with
                    | exc => rw [e1] at q5; exact q5.elim
                    | stuck => rw [e1] at q5; exact q5.elim
                    | ok o m4 =>
                      rw [e1] at q5
                      simp only [Res.bind_ok] at q5 ⊢
                      cases o with
                      | none => exact q5
                      | some y =>
                        simp only at q5 ⊢
                        cases hb : big acc.length with
                        | false => rw [hb] at q5; exact q5.elim
                        | true => rw [hb] at q5; exact q5
              · rintro H ⟨F5, R5, m5, acc, accV, l5, s5, ra5, q5⟩
                rw [List.drop_length] at q5
                unfold compL at q5
                simp only [Res.bind_ok] at q5
                exact ⟨F5, R5, m5, acc, accV, ((l.trans l2).trans (l3.trans l4)).trans l5, s5, ra5, q5⟩
  · rintro H ⟨F', R', m', acc, accV, l, s, ra, q⟩
    rw [List.drop_length] at q
    unfold compLL at q
    simp only [Res.bind_ok] at q
    cases k with
    | false =>
      obtain ⟨s2, l2⟩ := s.adopt zD
      exact q _ _ H _ (l.trans l2) s2 (.lst upd_same (ra.mono l2))
    | true =>
      obtain ⟨s2, l2, e2⟩ := s.adoptN zD (d := .lst acc) (.lst ra)
      exact q _ _ H _ (l.trans l2) s2 (.loc e2)
theorem e_comp2 (C : Cn G n X Wx) {elt tg iter tg1 iter1 : Expr} {ifs ifs1 : List Expr} {scope : Scope} {own : List (Str × Nat)} {pos : Pos} {k : Bool} {e' : E} {t t2 : Tg} {it it2 : Pv.It} {ifs' ifs2' : List E} (hi : PI X tg iter (tI G n X Wx it)) (ok : BlkOk X.N X.env.scope scope own) (hv : own.map (·.2) = tgIx t ++ tgIx t2)
    (hg : ∀ (s : Shared) (H : Hp) (D : Addr) (cl : List (Str × Addr)) (fp : List Addr), PG (X.blk s H scope (compEnvC scope cl D X.env) fp) tg (tGt G (X.blk s H scope (compEnvC scope cl D X.env) fp) t)) (ht : ∀ (s : Shared) (H : Hp) (D : Addr) (cl : List (Str × Addr)) (fp : List Addr), PTs (X.blk s H scope (compEnvC scope cl D X.env) fp) ifs (tTs G n (X.blk s H scope (compEnvC scope cl D X.env) fp) W0 ifs'))
    (hi1 : ∀ (s : Shared) (H : Hp) (D : Addr) (cl : List (Str × Addr)) (fp : List Addr), PI (X.blk s H scope (compEnvC scope cl D X.env) fp) tg1 iter1 (tI G n (X.blk s H scope (compEnvC scope cl D X.env) fp) W0 it2))
    (hg1 : ∀ (s : Shared) (H : Hp) (D : Addr) (cl : List (Str × Addr)) (fp : List Addr), PG (X.blk s H scope (compEnvC scope cl D X.env) fp) tg1 (tGt G (X.blk s H scope (compEnvC scope cl D X.env) fp) t2)) (ht1 : ∀ (s : Shared) (H : Hp) (D : Addr) (cl : List (Str × Addr)) (fp : List Addr), PTs (X.blk s H scope (compEnvC scope cl D X.env) fp) ifs1 (tTs G n (X.blk s H scope (compEnvC scope cl D X.env) fp) W0 ifs2'))
    (he : ∀ (s : Shared) (H : Hp) (D : Addr) (cl : List (Str × Addr)) (fp : List Addr), PE (X.blk s H scope (compEnvC scope cl D X.env) fp) elt (tE G n (X.blk s H scope (compEnvC scope cl D X.env) fp) W0 e')) (hs : ∀ x, foldedSetIterable iter X.env x = pure x := by intro _; rfl) (hs1 : ∀ env x, foldedSetIterable iter1 env x = pure x := by intro _ _; rfl) :
    PE X (.ListComp elt [⟨tg, iter, ifs, 0⟩, ⟨tg1, iter1, ifs1, 0⟩] scope pos) (tE G n X Wx (.comp2 k e' t it ifs' t2 it2 ifs2')) := by
  refine ⟨fun p s σ H Q I ⟨Z, F, R, sl, m, h1, h2, h3⟩ => ?_⟩
  refine (pe_lc2 C.calm C.nd hi ok (vs1 := tgIx t2) (by rw [hv]; exact fun i h => List.mem_append_right _ h) (g := tGt G X t) (tt := tTs G n X W0 ifs') (wi1 := tI G n X W0 it2) (g1 := tGt G X t2) (tt1 := tTs G n X W0 ifs2') (te := tE G n X W0 e') hg ht hi1 hg1 ht1 he hs hs1).run p s σ H Q I ?_
  rw [hv]
  exact comp2_read h1 h2 h3
end
end Pv

set_option Elab.async false
set_option linter.all false
set_option autoImplicit false
set_option maxRecDepth 100000
set_option maxHeartbeats 1000000
/-! PvM: built-in functions and methods. -/
namespace Pv
open PySem PySem.Spec PyProof.Rows L2
section
variable {G : Gd} {n : Nat} {X : Cx} {Wx : WX} {σ : L2.St} {H : Hp} {Q : VK} {Z F : Hp} {R : List Addr} {m : Mu}

/-! ### methods -/
def rBm (G : Gd) (X : Cx) (Wx : WX) (f : Bm) : V → List V → Hp → VK → Prop := fun v vs H Q => ∃ Z F R m x ds σ, SR (G.W X) Z F R m H ∧ Rel (G.W X) F R x v ∧ Rels (G.W X) F R ds vs ∧ EPo (G.W X) Z (Rel (G.W X)) F R σ Q Wx (bmD x f m ds)
/-- the built-in class at hand -/
def TyAs (X : Cx) (T : String) (v : V) (H : Hp) : Prop := ∀ (p : List (Addr × Obj)) (s : Shared) (σ : L2.St) (u : Value), Inv X p σ H s → RelV v u → s.TypeIs u T ∧ ∀ a, u = .ref a → ∃ ob, s.heap.get? a = some ob ∧ ob.dict = none
theorem tyAs_of {T : String} {v : V} (h : tyV X.K T v H) : TyAs X T v H := fun p s σ u I r => tyV_is I r h
theorem e_bm {T id : String} {name : Str} {f : Bm} {o e : Expr} {es : List Expr} {o' : E} {as : List E} {apos cpos : Pos} (pa : PlainAttrs T) (slot : Slot T name id) (hty : typeOf (.builtin id) = pure (.type "method_descriptor")) (hm : MtR X id (rBm G X Wx f))
    (ty : ∀ {Z F : Hp} {R : List Addr} {m : Mu} {H : Hp} {d : D} {v : V}, SR (G.W X) Z F R m H → Rel (G.W X) F R d v → bmTy f (dr m d) = true → TyAs X T v H) (ho : PE X o (tE G n X Wx o')) (ha : PA X (e :: es) (tL G n X Wx as))
    (hbase : attributeBase o name X.env (eval o X.env) = eval o X.env := by rfl)
    (hfew : ((backTo cpos (starEach (e :: es) X.env)).all (fun x => !x.1) && (backToKw cpos (keywordEach [] X.env)).all (fun x => x.1.isSome)
      && decide ((e :: es).length + ([] : List Keyword).length + (if ([] : List Keyword).isEmpty then 0 else 1) < 30)) = true := by rfl)
    (hline : (apos.endLine == cpos.line) = true := by rfl) (hs : starEach (e :: es) X.env = (false, eval e X.env) :: starEach es X.env := by rfl) (hplain : (backTo cpos (starEach es X.env)).any (·.1) = false := by rfl) :
    PE X (.Call (.Attribute o name apos) (e :: es) [] cpos) (tE G n X Wx (.bm o' f as)) := by
  refine ⟨fun p s σ H Q I ⟨Z, F, R, sl, m, h1, h2, h3⟩ => ?_⟩
  unfold evE at h3
  refine wpAny_Call_method_late hbase hfew hline rfl (thn (ho.run p s σ H _ I (tE_to (Qa := fun v H1 => TyAs X T v H1 ∧ tL G n X Wx as σ H1 fun vs H2 => rBm G X Wx f v vs H2 Q) h1 h2 h3 fun v H1 x m1 F1 R1 l1 s1 r1 q1 => ?_)) fun u s1 ⟨v, H1, I1, ru, t1, q1⟩ => ?_)
  · obtain ⟨hb, q1⟩ := when_of q1
    exact ⟨ty s1 r1 hb, tL_to s1 (h2.mono l1) q1 fun vs H2 xs m2 F2 R2 l2 s2 r2 q2 => ⟨Z, F2, R2, m2, x, xs, σ, s2, r1.mono l2, r2, q2⟩⟩
  · obtain ⟨k1, k2⟩ := t1 p s1 σ u I1 ru
    refine ⟨T, id, pa, slot, hty, k1, k2, ?_⟩
    have hA := ha.run cpos p s1 σ H1 _ I1 q1
    rw [hs] at hA ⊢
    refine Calls.callWith_builtin (by show (false || (backTo cpos (starEach es X.env)).any (·.1)) = false; rw [hplain] <;> rfl) (Calls.evalArgs_plain ?_)
    exact thn hA fun us s2 ⟨vs, H2, I2, r2, q2⟩ => hm p s2 σ H2 v vs u us Q I2 ru r2 q2
theorem e_bm0 {T id : String} {name : Str} {f : Bm} {o : Expr} {o' : E} {apos cpos : Pos} (pa : PlainAttrs T) (slot : Slot T name id) (hty : typeOf (.builtin id) = pure (.type "method_descriptor")) (hm : MtR X id (rBm G X Wx f))
    (ty : ∀ {Z F : Hp} {R : List Addr} {m : Mu} {H : Hp} {d : D} {v : V}, SR (G.W X) Z F R m H → Rel (G.W X) F R d v → bmTy f (dr m d) = true → TyAs X T v H) (ho : PE X o (tE G n X Wx o'))
    (hbase : attributeBase o name X.env (eval o X.env) = eval o X.env := by rfl) (hline : (apos.endLine == cpos.line) = true := by rfl) :
    PE X (.Call (.Attribute o name apos) [] [] cpos) (tE G n X Wx (.bm o' f [])) := by
  refine ⟨fun p s σ H Q I ⟨Z, F, R, sl, m, h1, h2, h3⟩ => ?_⟩
  unfold evE at h3
  refine wpAny_Call_method_late hbase rfl hline rfl (thn (ho.run p s σ H _ I (tE_to (Qa := fun v H1 => TyAs X T v H1 ∧ rBm G X Wx f v [] H1 Q) h1 h2 h3 fun v H1 x m1 F1 R1 l1 s1 r1 q1 => ?_)) fun u s1 ⟨v, H1, I1, ru, t1, q1⟩ => ?_)
  · obtain ⟨hb, q1⟩ := when_of q1
    exact ⟨ty s1 r1 hb, Z, F1, R1, m1, x, [], σ, s1, r1, .nil, q1⟩
  · obtain ⟨k1, k2⟩ := t1 p s1 σ u I1 ru
    exact ⟨T, id, pa, slot, hty, k1, k2, Calls.callWith_builtin rfl (PySem.evalArgs_none (hm p s1 σ H1 v [] u [] Q I1 ru .nil q1))⟩
theorem ty_list {f : Bm} (hf : ∀ d, bmTy f d = true → ∃ xs, d = .lst xs) {d : D} {v : V} (h1 : SR (G.W X) Z F R m H) (r : Rel (G.W X) F R d v) (h : bmTy f (dr m d) = true) : TyAs X "list" v H := by
  obtain ⟨xs, e⟩ := hf _ h
  obtain ⟨a, vs, rfl, ha, _⟩ := r.lst_of h1 e
  exact tyAs_of (.inl ⟨rfl, _, SqL.of ha⟩)
theorem ty_str {f : Bm} (hf : ∀ d, bmTy f d = true → ∃ x, d = .str x) {d : D} {v : V} (h1 : SR (G.W X) Z F R m H) (r : Rel (G.W X) F R d v) (h : bmTy f (dr m d) = true) : TyAs X "str" v H := by
  obtain ⟨x, e⟩ := hf _ h
  obtain rfl := r.str_of h1 e
  exact tyAs_of (show "str" = "str" from rfl)
theorem is_lst {f : Bm} (hf : f = .append ∨ f = .extend ∨ f = .pop) : ∀ d, bmTy f d = true → ∃ xs, d = .lst xs := by
  intro d h
  rcases hf with rfl | rfl | rfl <;> cases d <;> simp [bmTy] at h <;> exact ⟨_, rfl⟩
theorem is_str {f : Bm} (hf : f = .split ∨ f = .join ∨ f = .startswith) : ∀ d, bmTy f d = true → ∃ xs, d = .str xs := by
  intro d h
  rcases hf with rfl | rfl | rfl <;> cases d <;> simp [bmTy] at h <;> exact ⟨_, rfl⟩
/-- a number's list, to be changed -/
theorem SR.lst (s : SR (G.W X) Z F R m H) {i : Nat} {a : Addr} (hi : R[i]? = some a) {xs : List D} (e : m[i]? = some (some (.lst xs))) : ∃ vs, H a = some (.lst vs) ∧ Rels (G.W X) F R xs vs := by
  obtain ⟨u, hu, ro⟩ := s.at_ i a _ hi e
  cases ro with
  | lst rs => exact ⟨_, hu, rs⟩
theorem m_append : MtR X "list.append" (rBm G X Wx .append) := by
  intro p s σ H v vs u us Q I ru rus ⟨Z, F, R, m, x, ds, σ', h1, rx, rs, q⟩
  replace q : EPo (G.W X) Z (Rel (G.W X)) F R σ' Q Wx (appD x m ds) := q
  match ds, rs, x, rx, q with
  | [a], .cons ra .nil, .loc i, .loc hi, q =>
    unfold appD at q
    simp only at q
    split at q
    · rename_i xs e
      obtain ⟨hb, q⟩ := when_of q
      obtain ⟨ws, hw, rw_⟩ := h1.lst hi e
      refine mt_append p s σ H _ _ u us Q I ru rus ⟨_, ws, _, rfl, rfl, hw, by rw [← rw_.length]; exact lt_of_big hb, ?_⟩
      exact q F R _ .non Le.refl (h1.put hi (.lst (rw_.append (.cons ra .nil)))) .non
    · exact q.elim
theorem m_extend : MtR X "list.extend" (rBm G X Wx .extend) := by
  intro p s σ H v vs u us Q I ru rus ⟨Z, F, R, m, x, ds, σ', h1, rx, rs, q⟩
  replace q : EPo (G.W X) Z (Rel (G.W X)) F R σ' Q Wx (extD x m ds) := q
  match ds, rs, x, rx, q with
  | [a], .cons ra .nil, .loc i, .loc hi, q =>
    unfold extD at q
    simp only at q
    split at q
    · rename_i xs ys e e2
      obtain ⟨hb, q⟩ := when_of q
      obtain ⟨ws, hw, rw_⟩ := h1.lst hi e
      obtain ⟨b, zs, rfl, hz, rz⟩ := ra.lst_of h1 e2
      refine mt_extend p s σ H _ _ u us Q I ru rus ⟨_, b, ws, zs, rfl, rfl, hw, hz, by rw [← rw_.length, ← rz.length]; exact big_le hb, ?_⟩
      exact q F R _ .non Le.refl (h1.put hi (.lst (rw_.append rz))) .non
    · exact q.elim
theorem m_pop : MtR X "list.pop" (rBm G X Wx .pop) := by
  intro p s σ H v vs u us Q I ru rus ⟨Z, F, R, m, x, ds, σ', h1, rx, rs, q⟩
  replace q : EPo (G.W X) Z (Rel (G.W X)) F R σ' Q Wx (popD x m ds) := q
  match ds, rs, x, rx, q with
  | [], .nil, .loc i, .loc hi, q =>
    unfold popD at q
    simp only at q
    split at q
    · rename_i xs e
      split at q
      · rename_i y ey
        obtain ⟨ws, hw, rw_⟩ := h1.lst hi e
        obtain ⟨w, ew, ry⟩ := rw_.get ey
        refine mt_pop p s σ H _ _ u us Q I ru rus ⟨_, ws, w, rfl, rfl, hw, by rw [← rw_.length]; exact ew, ?_⟩
        exact q F R _ w Le.refl (h1.put hi (.lst rw_.dropLast)) ry
      · exact q.elim
    · exact q.elim
theorem strs_rel : ∀ {xs : List D} {vs : List V} {ys : List Str}, Rels (G.W X) F R xs vs → strsOf xs = some ys → vs = ys.map V.str ∧ xs = ys.map D.str
  | [], _, ys, .nil, e => by cases e; exact ⟨rfl, rfl⟩
  | .str x :: xs, _, ys, .cons (.str _) rs, e => by
    unfold strsOf at e
    obtain ⟨zs, e1, rfl⟩ := map_of e
    obtain ⟨h1, h2⟩ := strs_rel rs e1
    exact ⟨by rw [h1]; rfl, by rw [h2]; rfl⟩
theorem strs_rels : ∀ (ys : List Str), Rels (G.W X) F R (ys.map D.str) (ys.map V.str)
  | [] => .nil
  | y :: ys => .cons (.str y) (strs_rels ys)
theorem ints_rel : ∀ {xs : List D} {vs : List V} {ys : List Int}, Rels (G.W X) F R xs vs → intsOf xs = some ys → vs = ys.map V.int
  | [], _, ys, .nil, e => by cases e; rfl
  | .int x :: xs, _, ys, .cons (.int _) rs, e => by
    unfold intsOf at e
    obtain ⟨zs, e1, rfl⟩ := map_of e
    rw [ints_rel rs e1]; rfl
theorem bls_rel : ∀ {xs : List D} {vs : List V} {ys : List Bool}, Rels (G.W X) F R xs vs → blsOf xs = some ys → vs = ys.map V.bl
  | [], _, ys, .nil, e => by cases e; rfl
  | .bl x :: xs, _, ys, .cons (.bl _) rs, e => by
    unfold blsOf at e
    obtain ⟨zs, e1, rfl⟩ := map_of e
    rw [bls_rel rs e1]; rfl
theorem sq_of {d : D} {v : V} {xs : List D} (h1 : SR (G.W X) Z F R m H) (r : Rel (G.W X) F R d v) (e : sq m d = some xs) : ∃ a vs, v = .ref a ∧ (SqL X.K H a vs ∨ SqT X.K H a vs) ∧ Rels (G.W X) F R xs vs := by
  unfold sq at e
  split at e
  · rename_i ys e1
    cases e
    obtain ⟨a, vs, rfl, ha, ra⟩ := r.tup_of h1 e1
    exact ⟨a, vs, rfl, .inr ha, ra⟩
  · rename_i ys e1
    cases e
    obtain ⟨a, vs, rfl, ha, ra⟩ := r.lst_of h1 e1
    exact ⟨a, vs, rfl, .inl (SqL.of ha), ra⟩
  · cases e
theorem lq_of {d : D} {v : V} {xs : List D} (h1 : SR (G.W X) Z F R m H) (r : Rel (G.W X) F R d v) (e : lq m d = some xs) : ∃ a vs, v = .ref a ∧ SqL X.K H a vs ∧ Rels (G.W X) F R xs vs := by
  unfold lq at e
  split at e
  · rename_i ys e1
    cases e
    obtain ⟨a, vs, rfl, ha, ra⟩ := r.lst_of h1 e1
    exact ⟨a, vs, rfl, SqL.of ha, ra⟩
  · cases e
theorem m_join : MtR X "str.join" (rBm G X Wx .join) := by
  intro p s σ H v vs u us Q I ru rus ⟨Z, F, R, m, x, ds, σ', h1, rx, rs, q⟩
  replace q : EPo (G.W X) Z (Rel (G.W X)) F R σ' Q Wx (joinD x m ds) := q
  match ds, rs, x, rx, q with
  | [a], .cons ra .nil, .str z, .str _, q =>
    unfold joinD at q
    cases e : (sq m a).bind strsOf with
    | none => simp only [e] at q; exact q.elim
    | some xs =>
      simp only [e] at q
      obtain ⟨hb, q⟩ := when_of q
      obtain ⟨ys, e1, e2⟩ := Option.bind_eq_some_iff.mp e
      obtain ⟨b, ws, rfl, hw, rw_⟩ := sq_of h1 ra e1
      obtain ⟨rfl, _⟩ := strs_rel rw_ e2
      refine mt_join p s σ H _ _ u us Q I ru rus ⟨_, b, xs, rfl, rfl, hw, ?_, q.here h1 (.str _)⟩
      have := of_decide_eq_true hb
      omega
theorem m_split : MtR X "str.split" (rBm G X Wx .split) := by
  intro p s σ H v vs u us Q I ru rus ⟨Z, F, R, m, x, ds, σ', h1, rx, rs, q⟩
  replace q : EPo (G.W X) Z (Rel (G.W X)) F R σ' Q Wx (splitD x m ds) := q
  unfold splitD at q
  split at q
  · rename_i y
    split at q
    · rename_i z
      obtain ⟨hb, q⟩ := when_of q
      rw [Bool.and_eq_true, decide_eq_true_eq] at hb
      cases rx
      match rs with
      | .cons (.str _) .nil =>
        refine mt_split p s σ H _ _ u us Q I ru rus ⟨z, y, rfl, rfl, by rw [beq_eq_false_iff_ne]; omega, ?_, EPo.newL q h1 (strs_rels _)⟩
        have := of_decide_eq_true hb.2
        rw [sizeLine_eq]; omega
    · exact q.elim
  · exact q.elim
/-! ### d.get(k, x) of a written dict -/
theorem ty_dic {d : D} {v : V} (h1 : SR (G.W X) Z F R m H) (r : Rel (G.W X) F R d v) (h : bmTy .get (dr m d) = true) : TyAs X "dict" v H := by
  cases e : dr m d <;> rw [e] at h <;> simp [bmTy] at h
  rcases r.dr h1 with ⟨_, q⟩ | ⟨j, a, o, u, rfl, _, _, _, q, _, ro⟩ | ⟨j, rfl, q⟩
  · rw [q] at e; subst e
    cases r with
    | kdic hk =>
      obtain ⟨es, k, D, _⟩ := hk
      intro p s σ u I ru
      cases ru
      exact ⟨kd_type D I, fun a e => by cases e; exact ⟨_, I.kIn _ _ D.at_, rfl⟩⟩
    | dk hk => exact tyAs_of (.inr (.inr (.inl ⟨rfl, .inl ⟨_, h1.ex _ _ hk⟩⟩)))
  · rw [q] at e; subst e; cases ro
  · rw [q] at e; cases e
theorem relA_rel {W : Wl} {d : D} {v : V} (h : RelA d v) : Rel W F R d v := by
  cases h with
  | int i => exact .int i
  | str x => exact .str x
theorem m_get (C : Cn G n X Wx) : MtR X "dict.get" (rBm G X Wx .get) := by
  intro p s σ H v vs u us Q I ru rus ⟨Z, F, R, m, x, ds, σ', h1, rx, rs, q⟩
  replace q : EPo (G.W X) Z (Rel (G.W X)) F R σ' Q Wx (getD2 x m ds) := q
  unfold getD2 at q
  split at q
  · rename_i z d
    split at q
    · rename_i kvs
      match rs with
      | .cons (.str _) (.cons rd .nil) =>
        obtain ⟨u1, u2, rfl, r1, r2⟩ := vals2 rus
        obtain ⟨t, rfl⟩ := r1
        cases rx with
        | kdic hk =>
          obtain ⟨es, k, D, hd⟩ := hk
          cases ru
          refine call_meetsIn PySem.F.slot_dict_get (kd_type D I) PySem.F.entry_dict_get (PySem.F.args_dict_get_3 _ _ _) (meets_dict_get_default (PySem.strKind X.prog X.w) _ (PySem.strKind_is X.prog X.w z t) D.low u2) ⟨_, PySem.W.mapOf_K (prog := X.prog) I.kIn D.at_ D.lit, ?_⟩
          obtain ⟨k1, k2⟩ := hd z
          cases e : kvs.lookup (.inr z) with
          | none =>
            rw [PySem.W.find_K D.at_ (k1 e)]
            rw [e] at q
            exact ⟨_, H, I.tok _, r2, q.here h1 rd⟩
          | some d0 =>
            obtain ⟨u0, v0, e0, r0, ra⟩ := k2 d0 e
            rw [PySem.W.find_K D.at_ e0]
            rw [e] at q
            exact ⟨v0, H, I.tok _, r0, q.here h1 (relA_rel ra)⟩
        | dk hk =>
          have un := units60 C
          cases ru
          refine d_get2 (y := .str z) (d := _) (o := none) (by omega) I (.inl ⟨[], .inr z, Rd.of (h1.ex _ _ hk), rfl, rfl⟩) ⟨t, rfl⟩ r2 fun w' s' I' rw' => ⟨_, H, I', rw', q.here h1 rd⟩
    · exact q.elim
  · exact q.elim
end
end Pv

set_option Elab.async false
set_option linter.all false
set_option autoImplicit false
set_option maxRecDepth 100000
set_option maxHeartbeats 1000000
/-! PvP: built-in functions. -/
namespace Pv
open PySem PySem.Spec PyProof.Rows L2
section
variable {G : Gd} {n : Nat} {X : Cx} {Wx : WX} {σ : L2.St} {H : Hp} {Q : VK} {Z F : Hp} {R : List Addr} {m : Mu}
def rBi (G : Gd) (X : Cx) (Wx : WX) (f : Bi) (k : Bool) : List V → Hp → VK → Prop := fun vs H Q => ∃ Z F R m ds σ, SR (G.W X) Z F R m H ∧ Rels (G.W X) F R ds vs ∧ EPo (G.W X) Z (Rel (G.W X)) F R σ Q Wx (biD f k m ds)
/-- f(e, ..) of a built-in function -/
theorem e_bi {f : Bi} {k : Bool} {id : String} {x : Str} {p pos : Pos} {e : Expr} {es : List Expr} {as : List E} (hc : CallR X (.builtin id) (rBi G X Wx f k)) (hg : Gl X x) (hm : X.mg x = none) (hv : bootBuiltins x = some (.builtin id)) (ha : PA X (e :: es) (tL G n X Wx as)) (hn : x ≠ "__name__" := by decide) (hdb : (x == ("__debug__" : Str)) = false := by decide)
    (he : starEach (e :: es) X.env = (false, eval e X.env) :: starEach es X.env := by rfl) (hpl : (backTo pos (starEach es X.env)).any (·.1) = false := by rfl) : PE X (.Call (.Name x p) (e :: es) [] pos) (tE G n X Wx (.bi f k as)) := by
  refine ⟨fun pins s σ H Q I ⟨Z, F, R, sl, m, h1, h2, h3⟩ => ?_⟩
  unfold evE at h3
  exact (pe_callB hc hg hm hv ha hn hdb he hpl).run pins s σ H Q I (tL_to h1 h2 h3 fun vs H1 xs m1 F1 R1 l1 s1 r1 q1 => ⟨Z, F1, R1, m1, xs, σ, s1, r1, q1⟩)
/-- .. of a built-in class -/
theorem e_ty {f : Bi} {k : Bool} {T : String} {x : Str} {p pos : Pos} {e : Expr} {es : List Expr} {as : List E} (hc : CallR X (.type T) (rBi G X Wx f k)) (hg : Gl X x) (hm : X.mg x = none) (hv : bootBuiltins x = some (.type T)) (ha : PA X (e :: es) (tL G n X Wx as)) (hn : x ≠ "__name__" := by decide) (hdb : (x == ("__debug__" : Str)) = false := by decide)
    (he : starEach (e :: es) X.env = (false, eval e X.env) :: starEach es X.env := by rfl) (hpl : (backTo pos (starEach es X.env)).any (·.1) = false := by rfl) : PE X (.Call (.Name x p) (e :: es) [] pos) (tE G n X Wx (.bi f k as)) := by
  refine ⟨fun pins s σ H Q I ⟨Z, F, R, sl, m, h1, h2, h3⟩ => ?_⟩
  unfold evE at h3
  exact (pe_callTy hc hg hm hv ha hn hdb he hpl).run pins s σ H Q I (tL_to h1 h2 h3 fun vs H1 xs m1 F1 R1 l1 s1 r1 q1 => ⟨Z, F1, R1, m1, xs, σ, s1, r1, q1⟩)
theorem b_len {k : Bool} : CallR X (.builtin "len") (rBi G X Wx .len k) := by
  intro p s σ H vs us Q I rus ⟨Z, F, R, m, ds, σ', h1, rs, q⟩
  replace q : EPo (G.W X) Z (Rel (G.W X)) F R σ' Q Wx (lenD m ds) := q
  match ds, rs, q with
  | [a], .cons ra .nil, q =>
    unfold lenD at q
    simp only at q
    split at q
    · rename_i x e
      obtain ⟨hb, q⟩ := when_of q
      obtain rfl := ra.str_of h1 e
      exact call_len p s σ H _ us Q I rus ⟨_, _, rfl, ⟨big_le hb, rfl⟩, q.here h1 (.int _)⟩
    · rename_i xs e
      obtain ⟨a, ws, rfl, hw, rw_⟩ := ra.tup_of h1 e
      rw [rw_.length] at q
      exact call_len p s σ H _ us Q I rus ⟨_, _, rfl, .inr ⟨ws, hw, rfl⟩, q.here h1 (.int _)⟩
    · rename_i xs e
      obtain ⟨a, ws, rfl, hw, rw_⟩ := ra.lst_of h1 e
      rw [rw_.length] at q
      exact call_len p s σ H _ us Q I rus ⟨_, _, rfl, .inl ⟨ws, SqL.of hw, rfl⟩, q.here h1 (.int _)⟩
    · exact q.elim
theorem b_int {k : Bool} : CallR X (.type "int") (rBi G X Wx .int k) := by
  intro p s σ H vs us Q I rus ⟨Z, F, R, m, ds, σ', h1, rs, q⟩
  replace q : EPo (G.W X) Z (Rel (G.W X)) F R σ' Q Wx (intD m ds) := q
  unfold intD at q
  split at q
  · cases rs with
    | cons r rn =>
      cases r; cases rn
      exact call_int1 p s σ H _ us Q I rus (.inl ⟨_, rfl, q.here h1 (.int _)⟩)
  · cases rs with
    | cons r rn =>
      cases r; cases rn
      exact call_int1 p s σ H _ us Q I rus (.inr ⟨_, rfl, q.here h1 (.int _)⟩)
  · exact q.elim
theorem b_abs {k : Bool} : CallR X (.builtin "abs") (rBi G X Wx .abs k) := by
  intro p s σ H vs us Q I rus ⟨Z, F, R, m, ds, σ', h1, rs, q⟩
  replace q : EPo (G.W X) Z (Rel (G.W X)) F R σ' Q Wx (absD m ds) := q
  unfold absD at q
  split at q
  · cases rs with
    | cons r rn =>
      cases r; cases rn
      exact call_abs p s σ H _ us Q I rus ⟨_, rfl, q.here h1 (.int _)⟩
  · exact q.elim
theorem maxI_eq : ∀ (r : List Int) (a M : Int), M ∈ a :: r → (∀ y ∈ a :: r, y ≤ M) → maxI a r = M
  | [], a, M, h, _ => by simp at h; exact h.symm
  | b :: r, a, M, h, hM => by
    unfold maxI
    have h1 := hM a (by simp)
    have h2 := hM b (by simp)
    by_cases hb : b > a
    · rw [if_pos hb]
      refine maxI_eq r b M ?_ fun y hy => hM y (by simp at hy ⊢; rcases hy with h | h <;> simp [h])
      simp at h ⊢
      rcases h with rfl | h | h
      · omega
      · exact .inl h
      · exact .inr h
    · rw [if_neg hb]
      refine maxI_eq r a M ?_ fun y hy => hM y (by simp at hy ⊢; rcases hy with h | h <;> simp [h])
      simp at h ⊢
      rcases h with h | rfl | h
      · exact .inl h
      · exact .inl (by omega)
      · exact .inr h
theorem minI_eq : ∀ (r : List Int) (a M : Int), M ∈ a :: r → (∀ y ∈ a :: r, M ≤ y) → minI a r = M
  | [], a, M, h, _ => by simp at h; exact h.symm
  | b :: r, a, M, h, hM => by
    unfold minI
    have h1 := hM a (by simp)
    have h2 := hM b (by simp)
    by_cases hb : b < a
    · rw [if_pos hb]
      refine minI_eq r b M ?_ fun y hy => hM y (by simp at hy ⊢; rcases hy with h | h <;> simp [h])
      simp at h ⊢
      rcases h with rfl | h | h
      · omega
      · exact .inl h
      · exact .inr h
    · rw [if_neg hb]
      refine minI_eq r a M ?_ fun y hy => hM y (by simp at hy ⊢; rcases hy with h | h <;> simp [h])
      simp at h ⊢
      rcases h with h | rfl | h
      · exact .inl h
      · exact .inl (by omega)
      · exact .inr h
theorem b_max (hc : X.calm = true) {k : Bool} : CallR X (.builtin "max") (rBi G X Wx .max k) := by
  intro p s σ H vs us Q I rus ⟨Z, F, R, m, ds, σ', h1, rs, q⟩
  replace q : EPo (G.W X) Z (Rel (G.W X)) F R σ' Q Wx (maxD m ds) := q
  unfold maxD at q
  split at q
  · cases rs with
    | cons r rn =>
      cases rn with
      | cons r2 rn =>
        cases r; cases r2; cases rn
        exact call_max2 hc p s σ H _ us Q I rus ⟨_, _, rfl, q.here h1 (.int _)⟩
  · rename_i a _
    split at q
    · rename_i i r e
      obtain ⟨xs, e1, e2⟩ := Option.bind_eq_some_iff.mp e
      cases rs with
      | cons ra rn =>
        cases rn
        obtain ⟨b, ws, rfl, hw, rw_⟩ := lq_of h1 ra e1
        obtain rfl := ints_rel rw_ e2
        refine cr_max hc p s σ H _ us Q I rus ⟨b, i :: r, rfl, hw, by simp, fun M h h' => ?_⟩
        have := maxI_eq r i M h h'
        subst this
        exact q.here h1 (.int _)
    · exact q.elim
  · exact q.elim
theorem b_min (hc : X.calm = true) {k : Bool} : CallR X (.builtin "min") (rBi G X Wx .min k) := by
  intro p s σ H vs us Q I rus ⟨Z, F, R, m, ds, σ', h1, rs, q⟩
  replace q : EPo (G.W X) Z (Rel (G.W X)) F R σ' Q Wx (minD m ds) := q
  unfold minD at q
  split at q
  · cases rs with
    | cons r rn =>
      cases rn with
      | cons r2 rn =>
        cases r; cases r2; cases rn
        exact call_min2 hc p s σ H _ us Q I rus ⟨_, _, rfl, q.here h1 (.int _)⟩
  · rename_i a _
    split at q
    · rename_i i r e
      obtain ⟨xs, e1, e2⟩ := Option.bind_eq_some_iff.mp e
      cases rs with
      | cons ra rn =>
        cases rn
        obtain ⟨b, ws, rfl, hw, rw_⟩ := lq_of h1 ra e1
        obtain rfl := ints_rel rw_ e2
        refine cr_min hc p s σ H _ us Q I rus ⟨b, i :: r, rfl, hw, by simp, fun M h h' => ?_⟩
        have := minI_eq r i M h h'
        subst this
        exact q.here h1 (.int _)
    · exact q.elim
  · exact q.elim
theorem b_sum (hc : X.calm = true) {k : Bool} : CallR X (.builtin "sum") (rBi G X Wx .sum k) := by
  intro p s σ H vs us Q I rus ⟨Z, F, R, m, ds, σ', h1, rs, q⟩
  replace q : EPo (G.W X) Z (Rel (G.W X)) F R σ' Q Wx (sumD m ds) := q
  unfold sumD at q
  split at q
  · split at q
    · rename_i ns e
      obtain ⟨xs, e1, e2⟩ := Option.bind_eq_some_iff.mp e
      cases rs with
      | cons ra rn =>
        cases rn
        obtain ⟨b, ws, rfl, hw, rw_⟩ := lq_of h1 ra e1
        obtain rfl := ints_rel rw_ e2
        exact cr_sum hc p s σ H _ us Q I rus ⟨b, ns, rfl, hw, q.here h1 (.int _)⟩
    · exact q.elim
  · exact q.elim
theorem b_all (hc : X.calm = true) {k : Bool} : CallR X (.builtin "all") (rBi G X Wx .all k) := by
  intro p s σ H vs us Q I rus ⟨Z, F, R, m, ds, σ', h1, rs, q⟩
  replace q : EPo (G.W X) Z (Rel (G.W X)) F R σ' Q Wx (allD m ds) := q
  unfold allD at q
  split at q
  · split at q
    · rename_i ns e
      obtain ⟨xs, e1, e2⟩ := Option.bind_eq_some_iff.mp e
      cases rs with
      | cons ra rn =>
        cases rn
        obtain ⟨b, ws, rfl, hw, rw_⟩ := lq_of h1 ra e1
        obtain rfl := bls_rel rw_ e2
        exact cr_all hc p s σ H _ us Q I rus ⟨b, ns, rfl, hw, q.here h1 (.bl _)⟩
    · exact q.elim
  · exact q.elim
theorem b_any (hc : X.calm = true) {k : Bool} : CallR X (.builtin "any") (rBi G X Wx .any k) := by
  intro p s σ H vs us Q I rus ⟨Z, F, R, m, ds, σ', h1, rs, q⟩
  replace q : EPo (G.W X) Z (Rel (G.W X)) F R σ' Q Wx (anyD' m ds) := q
  unfold anyD' at q
  split at q
  · split at q
    · rename_i ns e
      obtain ⟨xs, e1, e2⟩ := Option.bind_eq_some_iff.mp e
      cases rs with
      | cons ra rn =>
        cases rn
        obtain ⟨b, ws, rfl, hw, rw_⟩ := lq_of h1 ra e1
        obtain rfl := bls_rel rw_ e2
        exact cr_any hc p s σ H _ us Q I rus ⟨b, ns, rfl, hw, q.here h1 (.bl _)⟩
    · exact q.elim
  · exact q.elim
theorem log_of {i : Int} (h : (decide (-(2 ^ 1900) < i) && decide (i < 2 ^ 1900)) = true) : i.natAbs.log2 < 1920 := by
  rw [Bool.and_eq_true, decide_eq_true_eq, decide_eq_true_eq] at h
  by_cases h0 : i.natAbs = 0
  · rw [h0]; decide
  · have : i.natAbs < 2 ^ 1900 := by omega
    have h2 := (Nat.log2_lt h0).mpr this
    omega
theorem b_repr {k : Bool} : CallR X (.builtin "repr") (rBi G X Wx .repr k) := by
  intro p s σ H vs us Q I rus ⟨Z, F, R, m, ds, σ', h1, rs, q⟩
  replace q : EPo (G.W X) Z (Rel (G.W X)) F R σ' Q Wx (reprD m ds) := q
  unfold reprD at q
  split at q
  · obtain ⟨hb, q⟩ := when_of q
    cases rs with
    | cons r rn =>
      cases r; cases rn
      obtain ⟨u, rfl, ru⟩ := Vals.one rus
      obtain ⟨t, rfl⟩ := ru
      exact PySem.P.repr_of_int (log_of hb) ⟨.str _, H, I.tok _, ⟨_, rfl⟩, q.here h1 (.str _)⟩
  · cases rs with
    | cons r rn =>
      cases r; cases rn
      obtain ⟨u, rfl, ru⟩ := Vals.one rus
      cases ru
      exact PySem.P.repr_of_bool ⟨.str _, H, I.tok _, ⟨_, rfl⟩, q.here h1 (.str _)⟩
  · exact q.elim
theorem b_tuple {k : Bool} : CallR X (.type "tuple") (rBi G X Wx .tuple k) := by
  intro p s σ H vs us Q I rus ⟨Z, F, R, m, ds, σ', h1, rs, q⟩
  replace q : EPo (G.W X) Z (Rel (G.W X)) F R σ' Q Wx (tupleD m ds) := q
  match ds, rs, q with
  | [a], .cons ra .nil, q =>
    unfold tupleD at q
    simp only at q
    split at q
    · rename_i xs e
      obtain ⟨a, ws, rfl, hw, rw_⟩ := ra.tup_of h1 e
      exact call_tuple_of p s σ H _ us Q I rus ⟨a, ws, rfl, .inr ⟨hw, q.here h1 (ra.whole h1 e)⟩⟩
    · rename_i xs e
      obtain ⟨a, ws, rfl, hw, rw_⟩ := ra.lst_of h1 e
      exact call_tuple_of p s σ H _ us Q I rus ⟨a, ws, rfl, .inl ⟨SqL.of hw, EPo.newT q h1 rw_⟩⟩
    · exact q.elim
theorem b_list {k : Bool} : CallR X (.type "list") (rBi G X Wx .list k) := by
  intro p s σ H vs us Q I rus ⟨Z, F, R, m, ds, σ', h1, rs, q⟩
  replace q : EPo (G.W X) Z (Rel (G.W X)) F R σ' Q Wx (listD k m ds) := q
  match ds, rs, q with
  | [a], .cons ra .nil, q =>
    unfold listD at q
    simp only at q
    split at q
    · rename_i xs e
      obtain ⟨a, ws, rfl, hw, rw_⟩ := ra.tup_of h1 e
      exact call_list_of p s σ H _ us Q I rus ⟨a, ws, rfl, .inr hw, EPo.mkL q h1 rw_⟩
    · rename_i xs e
      obtain ⟨a, ws, rfl, hw, rw_⟩ := ra.lst_of h1 e
      exact call_list_of p s σ H _ us Q I rus ⟨a, ws, rfl, .inl (SqL.of hw), EPo.mkL q h1 rw_⟩
    · exact q.elim

/-! ### str(x) -/
def rStrI (G : Gd) (n : Nat) (X : Cx) (Wx : WX) : List V → Hp → L2.St → VK → Prop := fun vs H σ Q => ∃ Z F R m d v, vs = [v] ∧ SR (G.W X) Z F R m H ∧ Rel (G.W X) F R d v ∧ EPo (G.W X) Z (Rel (G.W X)) F R σ Q Wx (match dr m d with
    | .ins c _ => (match G.P.strm c with
      | some g => (run G.P n g [d] m).bind fun r m => (match r with
        | .str z => .ok (.str z) m
        | _ => .stuck)
      | none => .stuck)
    | _ => biD .str false m [d])
theorem go_strI (C : Cn G n X Wx) (cf : ClF G X.K) {p : List (Addr × Obj)} {s : Shared} {vs : List V} {us : List Value} (I : Inv X p σ H s) (rus : Vals vs us) (h : rStrI G n X Wx vs H σ Q) : wpAny (model X.prog X.w) X.A (call (.type "str") us) (EP X p σ Q) X.xe s := by
  obtain ⟨Z, F, R, m, d, v, rfl, h1, r, q⟩ := h
  obtain ⟨u, rfl, ru⟩ := Vals.one rus
  split at q
  · rename_i c fs e
    split at q
    · rename_i g hg
      obtain ⟨hc, hs, hf, d', hd⟩ := cf.strm c g hg
      obtain ⟨a, dx, gs, rfl, ha, _⟩ := r.ins_of h1 e
      cases ru
      obtain ⟨mA, J, _⟩ := ins_get I.hok ha
      obtain ⟨od, J, _⟩ := J.look
      have un := units60 C
      refine PySem.W.kso_call (C.rm.in1.in1.units0) I.kIn J hs hf ?_
      have hq := EPo.bind (rel := Rel (G.W X)) q
      have hl : [V.ref a].length = (G.pn g).length := by rw [C.pnl g d' hd, ← run_len hd hq]; rfl
      have hb := (cf.df g d' hd).2 s [.ref a] I.kIn (by simpa using hl)
      rw [List.append_nil] at hb
      refine wpAny_call (codeAny_mono ((C.fns g d' hd).run X.A.in1.in1 X.stack s H ⟨[.ref a], []⟩ [.ref a] [.ref a] _ (WE Wx σ) (C.rm.in1.in1.mono (by omega)) I.env0.in1.in1 hb (.cons rfl .nil) ⟨hl, Z, F, R, [d], m, h1, .cons r .nil, hq.sig⟩) fun rr s' hq => ?_)
      cases rr with
      | error e => exact passAt C.tk σ p H s e s' I hq
      | ok fl =>
        cases fl with
        | ret u =>
          obtain ⟨v', H', I', ru', x, m2, F2, R2, _, l2, s2, rx, q2⟩ := I.after hq
          cases x <;> simp only at q2 <;> first | exact q2.elim | skip
          cases rx
          obtain ⟨t, rfl⟩ := ru'
          exact ⟨.str _, H', I', ⟨t, rfl⟩, q2.here s2 (.str _)⟩
        | next => exact False.elim hq
        | brk => exact False.elim hq
        | cont => exact False.elim hq
    · exact q.elim
  · replace q : EPo (G.W X) Z (Rel (G.W X)) F R σ Q Wx (strD m [d]) := q
    unfold strD at q
    split at q
    · rename_i x e
      cases e
      cases r
      exact SkE.call_str_str p s σ H _ [u] Q I (.cons ru .nil) ⟨_, rfl, q.here h1 (.str _)⟩
    · rename_i i e
      cases e
      obtain ⟨hb, q⟩ := when_of q
      cases r
      exact call_str_int p s σ H _ [u] Q I (.cons ru .nil) ⟨_, rfl, log_of hb, q.here h1 (.str _)⟩
    · exact q.elim
theorem e_str' (C : Cn G n X Wx) (cf : ClF G X.K) {a : Expr} {a' : E} {p pos : Pos} (hg : Gl X "str") (hm : X.mg "str" = none) (ha : PE X a (tE G n X Wx a')) (he : starEach [a] X.env = (false, eval a X.env) :: starEach [] X.env := by rfl) (hpl : (backTo pos (starEach [] X.env)).any (·.1) = false := by rfl) :
    PE X (.Call (.Name "str" p) [a] [] pos) (tE G n X Wx (.strI a')) := by
  refine ⟨fun pins s σ H Q I ⟨Z, F, R, sl, m, h1, h2, h3⟩ => ?_⟩
  unfold evE at h3
  refine wpAny_Call_Name_kw (ld_blt I hg hm (by rfl) ?_)
  refine PyProof.Rows.callWith_type1 (thn ((pa_cons ha pa_nil he).run pos pins s σ H (fun vs H1 => rStrI G n X Wx vs H1 σ Q) I (tE_to h1 h2 h3 fun v H1 x m1 F1 R1 l1 s1 r1 q1 => ⟨Z, F1, R1, m1, x, v, rfl, s1, r1, q1⟩)) fun us s1 ⟨vs, H1, I1, r1, q1⟩ => go_strI C cf I1 r1 q1) he hpl
end
end Pv

set_option Elab.async false
set_option linter.all false
set_option autoImplicit false
set_option maxRecDepth 100000
set_option maxHeartbeats 1000000
/-! PvS: statements. -/
namespace Pv
open PySem PySem.Spec PyProof.Rows L2
/-- what a statement's result asks of what follows -/
def SPo (W : Wl) (Z : Hp) (F : Hp) (R : List Addr) (D : Ends) (Wx : WX) : RS → Prop
  | .ok (.nxt s) m => ∀ F' R' H' σ', Le F R F' R' → SR W Z F' R' m H' → RS' W F' R' s σ' → D.nx σ' H'
  | .ok (.brk s) m => ∀ F' R' H' σ', Le F R F' R' → SR W Z F' R' m H' → RS' W F' R' s σ' → D.bk σ' H'
  | .ok (.cnt s) m => ∀ F' R' H' σ', Le F R F' R' → SR W Z F' R' m H' → RS' W F' R' s σ' → D.ct σ' H'
  | .ok (.ret d) m => ∀ F' R' H' v, Le F R F' R' → SR W Z F' R' m H' → Rel W F' R' d v → D.rt v H'
  | .exc c fs s m => ∀ F' R' H' σ' dx gs, Le F R F' R' → SR W Z F' R' m H' → RS' W F' R' s σ' → F' dx = some (.xd gs) → RelF W F' R' fs gs → Wx (.ref (W.C c)) (some dx) σ' H'
  | .stuck => False
section
variable {W : Wl} {Z F F' : Hp} {R R' : List Addr} {D : Ends} {Wx : WX} {σ : L2.St} {m : Mu} {H : Hp}
theorem SPo.le {r : RS} (h : SPo W Z F R D Wx r) (l : Le F R F' R') : SPo W Z F' R' D Wx r := by
  cases r with
  | ok f m => cases f <;> exact fun F2 R2 H2 x l2 => h F2 R2 H2 x (l.trans l2)
  | exc c fs s m => exact fun F2 R2 H2 x d g l2 => h F2 R2 H2 x d g (l.trans l2)
  | stuck => exact h
/-- first an expression -/
theorem SPo.to {α β : Type} {rel : Hp → List Addr → α → β → Prop} {s : Sl} {r : Res α} {k : α → Mu → RS} (h : SPo W Z F R D Wx (r.to s k)) (h2 : RS' W F R s σ) :
    EPo W Z rel F R σ (fun v H' => ∃ a m F' R', r = .ok a m ∧ Le F R F' R' ∧ SR W Z F' R' m H' ∧ rel F' R' a v ∧ SPo W Z F' R' D Wx (k a m)) Wx r := by
  cases r with
  | ok a m => exact fun F2 R2 H2 v l2 s r => ⟨a, m, F2, R2, rfl, l2, s, r, SPo.le (r := k a m) h l2⟩
  | exc c fs m => exact fun F' R' H' dx gs l s hd rf => h F' R' H' σ dx gs l s (h2.mono l) hd rf
  | stuck => exact h
end
section
variable {G : Gd} {n : Nat} {X : Cx} {Wx : WX} {σ : L2.St} {H : Hp} {Z F : Hp} {R : List Addr} {m : Mu}
def tS (G : Gd) (n : Nat) (X : Cx) (Wx : WX) (a : S) : TS := fun D σ H => ∃ Z F R s m, SR (G.W X) Z F R m H ∧ RS' (G.W X) F R s σ ∧ SPo (G.W X) Z F R D Wx (evS G.P (run G.P n) a s m)
def tSs (G : Gd) (n : Nat) (X : Cx) (Wx : WX) (as : List S) : TS := fun D σ H => ∃ Z F R s m, SR (G.W X) Z F R m H ∧ RS' (G.W X) F R s σ ∧ SPo (G.W X) Z F R D Wx (evSs G.P (run G.P n) as s m)
theorem ss_nil : PSs X [] (tSs G n X Wx []) :=
  ⟨fun p s σ H D I ⟨Z, F, R, sl, m, h1, h2, h3⟩ => pss_nil.run p s σ H D I (by unfold evSs at h3; exact h3 F R H σ Le.refl h1 h2)⟩
theorem ss_cons {st : Stmt} {rest : List Stmt} {a : S} {as : List S} (h1 : PS X st (tS G n X Wx a)) (h2 : PSs X rest (tSs G n X Wx as)) : PSs X (st :: rest) (tSs G n X Wx (a :: as)) := by
  refine ⟨fun p s σ H D I ⟨Z, F, R, sl, m, k1, k2, k3⟩ => (pss_cons h1 h2).run p s σ H D I ⟨Z, F, R, sl, m, k1, k2, ?_⟩⟩
  unfold evSs at k3
  cases e : evS G.P (run G.P n) a sl m with
  | ok f m1 =>
    rw [e] at k3
    cases f with
    | nxt s1 => exact fun F' R' H' σ' l s r => ⟨Z, F', R', s1, m1, s, r, SPo.le (r := evSs G.P (run G.P n) as s1 m1) k3 l⟩
    | ret v => exact k3
    | brk s1 => exact k3
    | cnt s1 => exact k3
  | exc c fs s1 m1 => rw [e] at k3; exact k3
  | stuck => rw [e] at k3; exact k3
theorem s_pass {pos : Pos} : PS X (.Pass pos) (tS G n X Wx .pass) :=
  ⟨fun p s σ H D I ⟨Z, F, R, sl, m, h1, h2, h3⟩ => ps_pass.run p s σ H D I (by unfold evS at h3; exact h3 F R H σ Le.refl h1 h2)⟩
theorem s_ex {e : Expr} {a : E} {pos : Pos} (he : PE X e (tE G n X Wx a)) (hs : swapsWith e none pos.line X.env = pure false := by rfl) : PS X (.Expr e pos) (tS G n X Wx (.ex a)) := by
  refine ⟨fun p s σ H D I ⟨Z, F, R, sl, m, h1, h2, h3⟩ => (ps_expr he hs).run p s σ H D I ⟨Z, F, R, sl, m, h1, h2, ?_⟩⟩
  unfold evS at h3
  refine (SPo.to (rel := Rel (G.W X)) h3 h2).imp ?_
  rintro v H1 ⟨x, m1, F1, R1, _, l1, s1, r1, q1⟩
  exact q1 F1 R1 H1 σ Le.refl s1 (h2.mono l1)
theorem s_ret {e : Expr} {a : E} {pos : Pos} (he : PE X e (tE G n X Wx a)) : PS X (.Return (some e) pos) (tS G n X Wx (.ret a)) := by
  refine ⟨fun p s σ H D I ⟨Z, F, R, sl, m, h1, h2, h3⟩ => (ps_ret he).run p s σ H D I ⟨Z, F, R, sl, m, h1, h2, ?_⟩⟩
  unfold evS at h3
  refine (SPo.to (rel := Rel (G.W X)) h3 h2).imp ?_
  rintro v H1 ⟨x, m1, F1, R1, _, l1, s1, r1, q1⟩
  exact q1 F1 R1 H1 v Le.refl s1 r1
theorem s_retn {pos : Pos} : PS X (.Return none pos) (tS G n X Wx .retn) :=
  ⟨fun p s σ H D I ⟨Z, F, R, sl, m, h1, h2, h3⟩ => ps_retN.run p s σ H D I (by unfold evS at h3; exact h3 F R H .non Le.refl h1 .non)⟩
theorem s_ite {c : Expr} {c' : E} {a b : List Stmt} {a' b' : List S} {pos : Pos} (hc : PT X c (tT G n X Wx c')) (ha : PSs X a (tSs G n X Wx a')) (hb : PSs X b (tSs G n X Wx b')) : PS X (.If c a b pos) (tS G n X Wx (.ite c' a' b')) := by
  refine ⟨fun p s σ H D I ⟨Z, F, R, sl, m, h1, h2, h3⟩ => (ps_if hc ha hb).run p s σ H D I ⟨Z, F, R, sl, m, h1, h2, ?_⟩⟩
  unfold evS at h3
  unfold evTr
  cases e1 : evE G.P (run G.P n) c' sl m with
  | ok x m1 =>
    rw [e1] at h3
    simp only [Res.to_ok, Res.bind_ok] at h3 ⊢
    refine (SPo.to (rel := relB) h3 h2).imp ?_
    rintro v H1 ⟨k, m2, F2, R2, _, l2, s2, rfl, q2⟩
    cases k with
    | true => exact ⟨Z, F2, R2, sl, m2, s2, h2.mono l2, q2⟩
    | false => exact ⟨Z, F2, R2, sl, m2, s2, h2.mono l2, q2⟩
  | exc c fs m1 => rw [e1] at h3; exact fun F' R' H' dx gs l s hd rf => h3 F' R' H' σ dx gs l s (h2.mono l) hd rf
  | stuck => rw [e1] at h3; exact h3.elim
/-- target = e -/
theorem s_asg {tg e : Expr} {t : Tg} {a : E} {pos : Pos} (he : PE X e (tE G n X Wx a)) (hg : PG X tg (tGt G X t)) (hs : swapsWithSole [tg] e pos.line X.env = pure false := by rfl) (hw : swappedStores [tg] e X.env = pure none := by rfl)
    (h1 : (assignEach [tg] X.env).map (·.2) = [assign tg X.env] := by rfl) : PS X (.Assign [tg] e pos) (tS G n X Wx (.asg (.t t) a)) := by
  refine ⟨fun p s σ H D I ⟨Z, F, R, sl, m, k1, k2, k3⟩ => (ps_asg he hg hs hw h1).run p s σ H D I ⟨Z, F, R, sl, m, k1, k2, ?_⟩⟩
  unfold evS at k3
  refine (SPo.to (rel := Rel (G.W X)) k3 k2).imp ?_
  rintro v H1 ⟨x, m1, F1, R1, _, l1, s1, r1, q1⟩
  unfold asgA at q1
  simp only at q1
  split at q1
  · rename_i s2 e2
    exact ⟨Z, F1, R1, sl, m1, x, s2, s1, k2.mono l1, r1, e2, fun σ' r _ => q1 F1 R1 H1 σ' Le.refl s1 r⟩
  · exact q1.elim
theorem asgV_read {tr : TE} {a : E} {i : Nat} {D : Ends} (htr : ∀ {Z F : Hp} {R : List Addr} {m : Mu} {sl : Sl} {H : Hp} {Q : VK}, SR (G.W X) Z F R m H → RS' (G.W X) F R sl σ → EPo (G.W X) Z (Rel (G.W X)) F R σ Q Wx (evE G.P (run G.P n) a sl m) → tr σ H Q) (h : tS G n X Wx (.asg (.t (.v i)) a) D σ H) : tAsg tr (gName i) D σ H := by
  obtain ⟨Z, F, R, sl, m, k1, k2, k3⟩ := h
  unfold evS at k3
  refine htr k1 k2 ((SPo.to (rel := Rel (G.W X)) k3 k2).imp ?_)
  rintro v H1 ⟨x, m1, F1, R1, _, l1, s1, r1, q1⟩
  exact q1 F1 R1 H1 _ Le.refl s1 ((k2.mono l1).set r1)
/-- x = [.. for .. in ..] -/
theorem s_setc (C : Cn G n X Wx) {i : Nat} {y : Str} {py : Pos} {elt tg iter : Expr} {ifs : List Expr} {scope : Scope} {own : List (Str × Nat)} {pos spos : Pos} {k : Bool} {e' : E} {t : Tg} {it : Pv.It} {ifs' : List E} (hy : X.N[i]? = some y) (hyl : X.env.scope.names.lookup y = some .local)
    (hsw : swapsWith (.ListComp elt [⟨tg, iter, ifs, 0⟩] scope pos) (some (.Name y py)) spos.line X.env = pure true) (hi : PI X tg iter (tI G n X Wx it)) (ok : BlkOk X.N X.env.scope scope own) (hv : own.map (·.2) = tgIx t)
    (hg : ∀ (s : Shared) (H : Hp) (D : Addr) (cl : List (Str × Addr)) (fp : List Addr), PG (X.blk s H scope (compEnvC scope cl D X.env) fp) tg (tGt G (X.blk s H scope (compEnvC scope cl D X.env) fp) t)) (ht : ∀ (s : Shared) (H : Hp) (D : Addr) (cl : List (Str × Addr)) (fp : List Addr), PTs (X.blk s H scope (compEnvC scope cl D X.env) fp) ifs (tTs G n (X.blk s H scope (compEnvC scope cl D X.env) fp) W0 ifs'))
    (he : ∀ (s : Shared) (H : Hp) (D : Addr) (cl : List (Str × Addr)) (fp : List Addr), PE (X.blk s H scope (compEnvC scope cl D X.env) fp) elt (tE G n (X.blk s H scope (compEnvC scope cl D X.env) fp) W0 e')) (hs : ∀ x, foldedSetIterable iter X.env x = pure x := by intro _; rfl) :
    PS X (.Assign [.Name y py] (.ListComp elt [⟨tg, iter, ifs, 0⟩] scope pos) spos) (tS G n X Wx (.asg (.t (.v i)) (.comp k e' t it ifs'))) :=
  ⟨fun p s σ H D I h => (ps_setLc C.calm C.nd hy hyl hsw hi ok (g := tGt G X t) (tt := tTs G n X W0 ifs') (te := tE G n X W0 e') hg ht he hs).run p s σ H D I (by rw [hv]; exact asgV_read (fun k1 k2 k3 => comp_read k1 k2 k3) h)⟩
theorem s_setc2 (C : Cn G n X Wx) {i : Nat} {y : Str} {py : Pos} {elt tg iter tg1 iter1 : Expr} {ifs ifs1 : List Expr} {scope : Scope} {own : List (Str × Nat)} {pos spos : Pos} {k : Bool} {e' : E} {t t2 : Tg} {it it2 : Pv.It} {ifs' ifs2' : List E} (hy : X.N[i]? = some y) (hyl : X.env.scope.names.lookup y = some .local)
    (hsw : swapsWith (.ListComp elt [⟨tg, iter, ifs, 0⟩, ⟨tg1, iter1, ifs1, 0⟩] scope pos) (some (.Name y py)) spos.line X.env = pure true) (hi : PI X tg iter (tI G n X Wx it)) (ok : BlkOk X.N X.env.scope scope own) (hv : own.map (·.2) = tgIx t ++ tgIx t2)
    (hg : ∀ (s : Shared) (H : Hp) (D : Addr) (cl : List (Str × Addr)) (fp : List Addr), PG (X.blk s H scope (compEnvC scope cl D X.env) fp) tg (tGt G (X.blk s H scope (compEnvC scope cl D X.env) fp) t)) (ht : ∀ (s : Shared) (H : Hp) (D : Addr) (cl : List (Str × Addr)) (fp : List Addr), PTs (X.blk s H scope (compEnvC scope cl D X.env) fp) ifs (tTs G n (X.blk s H scope (compEnvC scope cl D X.env) fp) W0 ifs'))
    (hi1 : ∀ (s : Shared) (H : Hp) (D : Addr) (cl : List (Str × Addr)) (fp : List Addr), PI (X.blk s H scope (compEnvC scope cl D X.env) fp) tg1 iter1 (tI G n (X.blk s H scope (compEnvC scope cl D X.env) fp) W0 it2))
    (hg1 : ∀ (s : Shared) (H : Hp) (D : Addr) (cl : List (Str × Addr)) (fp : List Addr), PG (X.blk s H scope (compEnvC scope cl D X.env) fp) tg1 (tGt G (X.blk s H scope (compEnvC scope cl D X.env) fp) t2)) (ht1 : ∀ (s : Shared) (H : Hp) (D : Addr) (cl : List (Str × Addr)) (fp : List Addr), PTs (X.blk s H scope (compEnvC scope cl D X.env) fp) ifs1 (tTs G n (X.blk s H scope (compEnvC scope cl D X.env) fp) W0 ifs2'))
    (he : ∀ (s : Shared) (H : Hp) (D : Addr) (cl : List (Str × Addr)) (fp : List Addr), PE (X.blk s H scope (compEnvC scope cl D X.env) fp) elt (tE G n (X.blk s H scope (compEnvC scope cl D X.env) fp) W0 e')) (hs : ∀ x, foldedSetIterable iter X.env x = pure x := by intro _; rfl) (hs1 : ∀ env x, foldedSetIterable iter1 env x = pure x := by intro _ _; rfl) :
    PS X (.Assign [.Name y py] (.ListComp elt [⟨tg, iter, ifs, 0⟩, ⟨tg1, iter1, ifs1, 0⟩] scope pos) spos) (tS G n X Wx (.asg (.t (.v i)) (.comp2 k e' t it ifs' t2 it2 ifs2'))) :=
  ⟨fun p s σ H D I h => (ps_setLc2 C.calm C.nd hy hyl hsw hi ok (vs1 := tgIx t2) (by rw [hv]; exact fun i h => List.mem_append_right _ h) (g := tGt G X t) (tt := tTs G n X W0 ifs') (wi1 := tI G n X W0 it2) (g1 := tGt G X t2) (tt1 := tTs G n X W0 ifs2') (te := tE G n X W0 e') hg ht hi1 hg1 ht1 he hs hs1).run p s σ H D I (by rw [hv]; exact asgV_read (fun k1 k2 k3 => comp2_read k1 k2 k3) h)⟩
/-- a, b = x, y -/
theorem s_par {i j : Nat} {x y : Str} {a b : Expr} {as : List E} {px py pt : Pos} {kt k2 pt2} {pos : Pos} (C : Cn G n X Wx) (hi : X.N[i]? = some x) (hj : X.N[j]? = some y) (hij : i ≠ j) (hx : X.env.scope.names.lookup x = some .local) (hy : X.env.scope.names.lookup y = some .local) (ha : PA X [a, b] (tL G n X Wx as))
    (hw : swappedStores [.Tuple [.Name x px, .Name y py] kt pt] (.Tuple [a, b] k2 pt2) X.env = pure (some [x, y])) (hs : swapsWithSole [.Tuple [.Name x px, .Name y py] kt pt] (.Tuple [a, b] k2 pt2) pos.line X.env = pure false := by rfl) :
    PS X (.Assign [.Tuple [.Name x px, .Name y py] kt pt] (.Tuple [a, b] k2 pt2) pos) (tS G n X Wx (.par [i, j] as)) := by
  refine ⟨fun p s σ H D I ⟨Z, F, R, sl, m, h1, h2, h3⟩ => (ps_par C.calm C.nd hi hj hij hx hy ha hw hs).run p s σ H D I ⟨Z, F, R, sl, m, h1, h2, ?_⟩⟩
  unfold evS at h3
  refine (SPo.to (rel := Rels (G.W X)) h3 h2).imp ?_
  rintro vs H1 ⟨xs, m1, F1, R1, _, l1, s1, r1, q1⟩
  match xs, r1, q1 with
  | [d1, d2], .cons r1 (.cons r2 .nil), q1 =>
    simp only [parS] at q1
    exact ⟨_, _, rfl, q1 F1 R1 H1 _ Le.refl s1 (((h2.mono l1).set r1).set r2)⟩
end
end Pv

set_option Elab.async false
set_option linter.all false
set_option autoImplicit false
set_option maxRecDepth 100000
set_option maxHeartbeats 1000000
/-! PvT: loops. -/
namespace Pv
open PySem PySem.Spec PyProof.Rows L2
section
variable {G : Gd} {n : Nat} {X : Cx} {Wx : WX} {σ : L2.St} {H : Hp} {Z F : Hp} {R : List Addr} {m : Mu}
theorem layS_get {m : Mu} {b : Nat} {s : Sl} {i : Nat} {d : D} (h : (layS m b s)[i]? = some (some d)) : ∃ d0, s[i]? = some (some d0) ∧ lay m b d0 = some d := by
  unfold layS at h
  rw [List.getElem?_map] at h
  cases e : s[i]? with
  | none => rw [e] at h; cases h
  | some o =>
    rw [e] at h
    cases o with
    | none => cases h
    | some d0 => exact ⟨d0, rfl, by simpa using h⟩
/-- behind a turn -/
theorem leave_ok {W : Wl} {Z F F0 : Hp} {R R0 : List Addr} {m m2 : Mu} {H : Hp} {b : Nat} {s s2 : Sl} {σ : L2.St} (h1 : SR W Z F R m H) (h2 : RS' W F R s σ) (l : Le F0 R0 F R) (hb : R0.length = b) (e : leave b s m = some (s2, m2)) :
    ∃ F' R', Le F0 R0 F' R' ∧ SR W Z F' R' m2 H ∧ RS' W F' R' s2 σ ∧ R'.length = b ∧ ∀ {F1 : Hp} {R1 : List Addr}, Le F1 R1 F R → R1.length = b → Le F1 R1 F' R' := by
  unfold leave at e
  by_cases hm : m.length = b
  · rw [if_pos hm] at e
    cases e
    exact ⟨F, R, l, h1, h2, by rw [h1.len, hm], fun l _ => l⟩
  · rw [if_neg hm] at e
    obtain ⟨m3, e1, e2⟩ := map_of e
    cases e2
    have hle : b ≤ m.length := by
      rw [← h1.len]
      obtain ⟨r, rfl⟩ := l.re
      rw [List.length_append]
      omega
    obtain ⟨f1, f2, _⟩ := freeze h1 hle e1
    refine ⟨_, _, l.freeze hb, f1, ⟨?_, fun i d hd => ?_⟩, ?_, fun l hb => l.freeze hb⟩
    · unfold layS; rw [List.length_map]; exact h2.len
    · obtain ⟨d0, k1, k2⟩ := layS_get hd
      obtain ⟨v, k3, k4⟩ := h2.get i d0 k1
      exact ⟨v, k3, f2 d0 v d k4 k2⟩
    · rw [List.length_take, h1.len]; omega
/-- for t in it: .. -/
theorem s_for (C : Cn G n X Wx) {tg iter : Expr} {body : List Stmt} {t : Tg} {it : Pv.It} {b' : List S} {pos : Pos} (hi : PI X tg iter (tI G n X Wx it)) (hg : PG X tg (tGt G X t)) (hb : PSs X body (tSs G n X Wx b')) (hs : ∀ x, foldedSetIterable iter X.env x = pure x := by intro _; rfl) :
    PS X (.For tg iter body [] pos) (tS G n X Wx (.for_ t it b')) := by
  refine ⟨fun p s σ H D I ⟨Z, F, R, sl, m, h1, h2, h3⟩ => (ps_for C.po C.calm hi hg hb hs).run p s σ H D I ⟨Z, F, R, sl, m, h1, h2, ?_⟩⟩
  unfold evS at h3
  refine (SPo.to (rel := relW (G.W X)) h3 h2).imp ?_
  rintro J H1 ⟨ds, m1, F1, R1, _, l1, s1, ⟨Gd', Y, w, hG, hY⟩, q1⟩
  have hb1 : R1.length = m1.length := s1.len
  refine for_it w (fun i σ H => ∃ F' R' m' sl', Le F1 R1 F' R' ∧ R'.length = m1.length ∧ SR (G.W X) Z F' R' m' H ∧ RS' (G.W X) F' R' sl' σ ∧
      SPo (G.W X) Z F1 R1 D Wx (forL m1.length (fun d s m => match asgT m t d s with
        | some s => evSs G.P (run G.P n) b' s m
        | none => .stuck) (ds.drop i) sl' m'))
    ⟨F1, R1, m1, sl, Le.refl, hb1, s1, h2.mono l1, q1⟩ (fun i σ H _ ⟨F', R', m', sl', l, _, s, _⟩ => hG H fun a o h => s.ex a o (l.ex a o h)) ?_ ?_
  · rintro i x σ' H2 H3 hi' ⟨F', R', m', sl', l, hl, s, r, q⟩ hy
    obtain ⟨d, ed, hd⟩ := hY i H2 x H3 hi' hy
    have hd' : (H3 = H2 ∧ Rel (G.W X) F' R' d x) ∨ ∃ T vs es, x = .ref T ∧ H2 T = none ∧ H3 = upd H2 T (.tup vs) ∧ d = .tup es ∧ Rels (G.W X) F' R' es vs := by
      rcases hd with ⟨a, b⟩ | ⟨T, vs, es, a, b, c, d, e⟩
      · exact .inl ⟨a, b.mono l⟩
      · exact .inr ⟨T, vs, es, a, b, c, d, e.mono l⟩
    obtain ⟨F2, l2, s2, rd⟩ := yld_SR s hd'
    rw [drop_of ed] at q
    unfold forL at q
    cases ea : asgT m' t d sl' with
    | none => simp only [ea] at q; exact q.elim
    | some s3 =>
      simp only [ea] at q
      refine ⟨Z, F2, R', sl', m', d, s3, s2, r.mono l2, rd, ea, fun σ2 r2 _ => ⟨Z, F2, R', s3, m', s2, r2, ?_⟩⟩
      have again : ∀ {s4 s5 : Sl} {m4 m5 : Mu} {F4 : Hp} {R4 : List Addr} {H4 : Hp} {σ4 : L2.St}, leave m1.length s4 m4 = some (s5, m5) → Le F2 R' F4 R4 → SR (G.W X) Z F4 R4 m4 H4 → RS' (G.W X) F4 R4 s4 σ4 →
          SPo (G.W X) Z F1 R1 D Wx (forL m1.length (fun d s m => match asgT m t d s with
            | some s => evSs G.P (run G.P n) b' s m
            | none => .stuck) (ds.drop (i + 1)) s5 m5) → ∃ F' R' m' sl', Le F1 R1 F' R' ∧ R'.length = m1.length ∧ SR (G.W X) Z F' R' m' H4 ∧ RS' (G.W X) F' R' sl' σ4 ∧
            SPo (G.W X) Z F1 R1 D Wx (forL m1.length (fun d s m => match asgT m t d s with
              | some s => evSs G.P (run G.P n) b' s m
              | none => .stuck) (ds.drop (i + 1)) sl' m') := by
        intro s4 s5 m4 m5 F4 R4 H4 σ4 el l4 s4' r4 q4
        obtain ⟨F5, R5, k1, k2, k3, k4, k5⟩ := leave_ok s4' r4 (l2.trans l4) hl el
        exact ⟨F5, R5, m5, s5, k5 (l.trans (l2.trans l4)) hb1, k4, k2, k3, q4⟩
      cases eb : evSs G.P (run G.P n) b' s3 m' with
      | ok f m4 =>
        rw [eb] at q
        cases f with
        | nxt s4 =>
          simp only at q
          cases el : leave m1.length s4 m4 with
          | none => rw [el] at q; exact q.elim
          | some z =>
            obtain ⟨s5, m5⟩ := z
            rw [el] at q
            exact fun F4 R4 H4 σ4 l4 s4' r4 => again el l4 s4' r4 q
        | cnt s4 =>
          simp only at q
          cases el : leave m1.length s4 m4 with
          | none => rw [el] at q; exact q.elim
          | some z =>
            obtain ⟨s5, m5⟩ := z
            rw [el] at q
            exact fun F4 R4 H4 σ4 l4 s4' r4 => again el l4 s4' r4 q
        | brk s4 => exact fun F4 R4 H4 σ4 l4 s4' r4 => q F4 R4 H4 σ4 (l.trans (l2.trans l4)) s4' r4
        | ret v => exact fun F4 R4 H4 v' l4 s4' r4 => q F4 R4 H4 v' (l.trans (l2.trans l4)) s4' r4
      | exc c fs s4 m4 =>
        rw [eb] at q
        exact fun F4 R4 H4 σ4 dx gs l4 => q F4 R4 H4 σ4 dx gs (l.trans (l2.trans l4))
      | stuck => rw [eb] at q; exact q.elim
  · rintro σ' H2 ⟨F', R', m', sl', l, hl, s, r, q⟩
    rw [List.drop_length] at q
    unfold forL at q
    exact q F' R' H2 σ' l s r
/-- while c: .. -/
theorem s_whl (C : Cn G n X Wx) {c : Expr} {body : List Stmt} {c' : E} {b' : List S} {pos : Pos} (hc : PT X c (tT G n X Wx c')) (hb : PSs X body (tSs G n X Wx b')) : PS X (.While c body [] pos) (tS G n X Wx (.whl c' b')) := by
  refine ⟨fun p s σ H D I ⟨Z, F, R, sl, m, h1, h2, h3⟩ => (ps_while C.po hc hb).run p s σ H D I ?_⟩
  unfold evS at h3
  have hb1 : R.length = m.length := h1.len
  refine ⟨fun k σ H => ∃ F' R' m' sl', Le F R F' R' ∧ R'.length = m.length ∧ SR (G.W X) Z F' R' m' H ∧ RS' (G.W X) F' R' sl' σ ∧
      SPo (G.W X) Z F R D Wx (whL m.length (fun s m => (evE G.P (run G.P n) c' s m).bind fun x m => truI G.P (run G.P n) x m) (fun s m => evSs G.P (run G.P n) b' s m) k sl' m'),
    ⟨1000000, F, R, m, sl, Le.refl, hb1, h1, h2, h3⟩, ?_⟩
  rintro k σ' H2 ⟨F', R', m', sl', l, hl, s, r, q⟩
  cases k with
  | zero => exact q.elim
  | succ k =>
    unfold whL at q
    refine ⟨Z, F', R', sl', m', s, r, ?_⟩
    unfold evTr
    cases et : (evE G.P (run G.P n) c' sl' m').bind fun x m => truI G.P (run G.P n) x m with
    | exc cc fs m4 => rw [et] at q; exact fun F4 R4 H4 dx gs l4 s4 hd rf => q F4 R4 H4 σ' dx gs (l.trans l4) s4 (r.mono l4) hd rf
    | stuck => rw [et] at q; exact q.elim
    | ok b m4 =>
      rw [et] at q
      simp only [Res.to_ok] at q
      rintro F4 R4 H4 v l4 s4 rfl
      cases b with
      | false =>
        rw [if_neg (by decide)] at q ⊢
        exact q F4 R4 H4 σ' (l.trans l4) s4 (r.mono l4)
      | true =>
        rw [if_pos rfl] at q ⊢
        refine ⟨fun σ H => ∃ F' R' m' sl', Le F R F' R' ∧ R'.length = m.length ∧ SR (G.W X) Z F' R' m' H ∧ RS' (G.W X) F' R' sl' σ ∧
          SPo (G.W X) Z F R D Wx (whL m.length (fun s m => (evE G.P (run G.P n) c' s m).bind fun x m => truI G.P (run G.P n) x m) (fun s m => evSs G.P (run G.P n) b' s m) k sl' m'),
          fun σ H h => ⟨k, Nat.lt_succ_self k, h⟩, Z, F4, R4, sl', m4, s4, r.mono l4, ?_⟩
        have again : ∀ {s5 s6 : Sl} {m5 m6 : Mu} {F5 : Hp} {R5 : List Addr} {H5 : Hp} {σ5 : L2.St}, leave m.length s5 m5 = some (s6, m6) → Le F4 R4 F5 R5 → SR (G.W X) Z F5 R5 m5 H5 → RS' (G.W X) F5 R5 s5 σ5 →
            SPo (G.W X) Z F R D Wx (whL m.length (fun s m => (evE G.P (run G.P n) c' s m).bind fun x m => truI G.P (run G.P n) x m) (fun s m => evSs G.P (run G.P n) b' s m) k s6 m6) →
            ∃ F' R' m' sl', Le F R F' R' ∧ R'.length = m.length ∧ SR (G.W X) Z F' R' m' H5 ∧ RS' (G.W X) F' R' sl' σ5 ∧
              SPo (G.W X) Z F R D Wx (whL m.length (fun s m => (evE G.P (run G.P n) c' s m).bind fun x m => truI G.P (run G.P n) x m) (fun s m => evSs G.P (run G.P n) b' s m) k sl' m') := by
          intro s5 s6 m5 m6 F5 R5 H5 σ5 el l5 s5' r5 q5
          obtain ⟨F6, R6, k1, k2, k3, k4, k5⟩ := leave_ok s5' r5 (l4.trans l5) hl el
          exact ⟨F6, R6, m6, s6, k5 (l.trans (l4.trans l5)) hb1, k4, k2, k3, q5⟩
        cases eb : evSs G.P (run G.P n) b' sl' m4 with
        | ok f m5 =>
          rw [eb] at q
          cases f with
          | nxt s5 =>
            simp only at q
            cases el : leave m.length s5 m5 with
            | none => rw [el] at q; exact q.elim
            | some z =>
              obtain ⟨s6, m6⟩ := z
              rw [el] at q
              exact fun F5 R5 H5 σ5 l5 s5' r5 => again el l5 s5' r5 q
          | cnt s5 =>
            simp only at q
            cases el : leave m.length s5 m5 with
            | none => rw [el] at q; exact q.elim
            | some z =>
              obtain ⟨s6, m6⟩ := z
              rw [el] at q
              exact fun F5 R5 H5 σ5 l5 s5' r5 => again el l5 s5' r5 q
          | brk s5 => exact fun F5 R5 H5 σ5 l5 s5' r5 => q F5 R5 H5 σ5 (l.trans (l4.trans l5)) s5' r5
          | ret v => exact fun F5 R5 H5 v' l5 s5' r5 => q F5 R5 H5 v' (l.trans (l4.trans l5)) s5' r5
        | exc cc fs s5 m5 =>
          rw [eb] at q
          exact fun F5 R5 H5 σ5 dx gs l5 => q F5 R5 H5 σ5 dx gs (l.trans (l4.trans l5))
        | stuck => rw [eb] at q; exact q.elim
end
end Pv

set_option Elab.async false
set_option linter.all false
set_option autoImplicit false
set_option maxRecDepth 100000
set_option maxHeartbeats 1000000
/-! PvU: stores into fields and lists; raise. -/
namespace Pv
open PySem PySem.Spec PyProof.Rows L2
section
variable {G : Gd} {n : Nat} {X : Cx} {Wx : WX} {σ : L2.St} {H : Hp} {Z F : Hp} {R : List Addr} {m : Mu}
theorem putF_rel {W : Wl} (inj : ∀ f g, W.nm f = W.nm g → f = g) {f : Nat} {d : D} {v : V} (r : Rel W F R d v) : ∀ {fs : List (Nat × D)} {gs : List (Str × V)}, RelF W F R fs gs → RelF W F R (setF f d fs) (putF (W.nm f) v gs)
  | _, _, .nil => .cons r .nil
  | _, _, .cons (f := g) (x := x) (v := v') a b => by
    unfold setF putF
    by_cases e : g = f
    · subst e
      rw [if_pos rfl, if_pos rfl]
      exact .cons r b
    · rw [if_neg e, if_neg fun z => e (inj _ _ z)]
      exact .cons a (putF_rel inj r b)
/-- o.f = e -/
theorem s_fld (cf : ClF G X.K) {o e : Expr} {o' a : E} {f : Str} {k : Nat} {pos' pos : Pos} (ho : PE X o (tE G n X Wx o')) (he : PE X e (tE G n X Wx a)) (hf : G.nm k = f) (hs : swapsWith e (some (.Attribute o f pos')) pos.line X.env = pure false := by rfl) :
    PS X (.Assign [.Attribute o f pos'] e pos) (tS G n X Wx (.asg (.fld o' k) a)) := by
  subst hf
  refine ⟨fun p s σ H D I ⟨Z, F, R, sl, m, h1, h2, h3⟩ => (ps_fld ho he hs).run p s σ H D I ⟨Z, F, R, sl, m, h1, h2, ?_⟩⟩
  unfold evS at h3
  refine (SPo.to (rel := Rel (G.W X)) h3 h2).imp ?_
  rintro y H1 ⟨d, m1, F1, R1, _, l1, s1, r1, q1⟩
  unfold asgA at q1
  refine ⟨Z, F1, R1, sl, m1, s1, h2.mono l1, (SPo.to (rel := Rel (G.W X)) q1 (h2.mono l1)).imp ?_⟩
  rintro x H2 ⟨dx, m2, F2, R2, _, l2, s2, r2, q2⟩
  split at q2
  · rename_i i
    split at q2
    · rename_i c fs e
      cases r2 with
      | loc hi =>
        rename_i a
        by_cases hc : (G.P.cls c && (G.P.fld c k && decide (fs.length < 1000))) = true
        · rw [if_pos hc] at q2
          simp only [Bool.and_eq_true, decide_eq_true_eq] at hc
          obtain ⟨u, hu, ro⟩ := s2.at_ _ a _ hi e
          cases ro with
          | ins rf =>
            rename_i dx0 gs
            have hlen : gs.length = fs.length := by
              clear hu e hc
              have : ∀ {fs : List (Nat × Pv.D)} {gs : List (Str × V)}, RelF (G.W X) F2 R2 fs gs → gs.length = fs.length := by
                intro fs gs rf
                induction fs generalizing gs with
                | nil => cases rf; rfl
                | cons q fs ih => cases rf with
                  | cons a b => rw [List.length_cons, List.length_cons, ih b]
              exact this rf
            refine ⟨a, G.C c, dx0, gs, rfl, hu, (cf.cl c hc.1).cl, cf.fld c k hc.2.1, by rw [hlen]; exact hc.2.2, ?_⟩
            exact q2 F2 R2 _ σ Le.refl (s2.put hi (.ins (putF_rel cf.nmI (r1.mono l2) rf))) (h2.mono (l1.trans l2))
        · rw [if_neg hc] at q2; exact q2.elim
    · exact q2.elim
  · exact q2.elim
/-- o[i] = e -/
theorem s_sub {o i e : Expr} {o' i' a : E} {pos' pos : Pos} (ho : PE X o (tE G n X Wx o')) (hi : PE X i (tE G n X Wx i')) (he : PE X e (tE G n X Wx a)) (hs : swapsWithSole [.Subscript o i pos'] e pos.line X.env = pure false := by rfl) (hw : swappedStores [.Subscript o i pos'] e X.env = pure none := by rfl)
    (h1 : (assignEach [.Subscript o i pos'] X.env).map (·.2) = [assign (.Subscript o i pos') X.env] := by rfl) (ha : ∀ v, assign (.Subscript o i pos') X.env v = (do
      let ov ← holding [v] (eval o X.env)
      let iv ← holding [v, ov] (eval i X.env)
      standAt pos'
      holding [v, ov, iv] (setItem ov iv v)
      release [v, ov, iv] []) := by intro _; rfl) : PS X (.Assign [.Subscript o i pos'] e pos) (tS G n X Wx (.asg (.sub o' i') a)) := by
  refine ⟨fun p s σ H D I ⟨Z, F, R, sl, m, k1, k2, k3⟩ => (ps_asg he (pg_sub ho hi set_list ha) hs hw h1).run p s σ H D I ⟨Z, F, R, sl, m, k1, k2, ?_⟩⟩
  unfold evS at k3
  refine (SPo.to (rel := Rel (G.W X)) k3 k2).imp ?_
  rintro v H1 ⟨d, m1, F1, R1, _, l1, s1, r1, q1⟩
  unfold asgA at q1
  refine ⟨Z, F1, R1, sl, m1, s1, k2.mono l1, (SPo.to (rel := Rel (G.W X)) q1 (k2.mono l1)).imp ?_⟩
  rintro x H2 ⟨dx, m2, F2, R2, _, l2, s2, r2, q2⟩
  refine ⟨Z, F2, R2, sl, m2, s2, k2.mono (l1.trans l2), (SPo.to (rel := Rel (G.W X)) q2 (k2.mono (l1.trans l2))).imp ?_⟩
  rintro y H3 ⟨dy, m3, F3, R3, _, l3, s3, r3, q3⟩
  split at q3
  · rename_i b j
    split at q3
    · rename_i xs e
      split at q3
      · rename_i ys e2
        cases r2 with
        | loc hi2 =>
          rename_i a
          have hi3 := l3.at hi2
          obtain ⟨u, hu, ro⟩ := s3.at_ _ a _ hi3 e
          cases ro with
          | lst rs =>
            cases r3
            unfold setIx at e2
            obtain ⟨k, e3, rfl⟩ := map_of e2
            refine ⟨a, _, _, k, rfl, rfl, hu, by rw [← rs.length, ← ixAt_eq]; exact e3, ?_⟩
            exact q3 F3 R3 _ σ Le.refl (s3.put hi3 (.lst (rs.set ((r1.mono l2).mono l3) k))) (k2.mono ((l1.trans l2).trans l3))
      · exact q3.elim
    · exact q3.elim
  · exact q3.elim

/-! ### raise -/
theorem relF_zip {W : Wl} : ∀ {fs : List Nat} {ds : List D} {vs : List V}, Rels W F R ds vs → fs.length = ds.length → RelF W F R (fs.zip ds) ((fs.map W.nm).zip vs)
  | [], [], _, .nil, _ => .nil
  | f :: fs, d :: ds, _, .cons a b, e => .cons a (relF_zip b (by simpa using e))
  | [], _ :: _, _, _, e => by cases e
  | _ :: _, [], _, _, e => by cases e
theorem RelF.append {W : Wl} : ∀ {fs gs : List (Nat × D)} {vs us : List (Str × V)}, RelF W F R fs vs → RelF W F R gs us → RelF W F R (fs ++ gs) (vs ++ us)
  | _, _, _, _, .nil, s => s
  | _, _, _, _, .cons a b, s => .cons a (b.append s)
theorem RelF.reverse {W : Wl} : ∀ {fs : List (Nat × D)} {vs : List (Str × V)}, RelF W F R fs vs → RelF W F R fs.reverse vs.reverse
  | _, _, .nil => .nil
  | _, _, .cons a b => by
    rw [List.reverse_cons, List.reverse_cons]
    exact b.reverse.append (.cons a .nil)
theorem s_raise (C : Cn G n X Wx) {c : Nat} {fs : List Nat} {x : Str} {p pos pos2 : Pos} {e : Expr} {es : List Expr} {as : List E} (ex : G.P.exf c = some fs) (ha : PA X (e :: es) (tL G n X Wx as)) (hg : Gl X x) (hm : X.mg x = some (.ref (G.C c)))
    (hdb : (x == ("__debug__" : Str)) = false := by decide) (he : starEach (e :: es) X.env = (false, eval e X.env) :: starEach es X.env := by rfl) (hpl : (backTo pos (starEach es X.env)).any (·.1) = false := by rfl) :
    PS X (.Raise (some (.Call (.Name x p) (e :: es) [] pos)) none pos2) (tS G n X Wx (.raise c as)) := by
  refine ⟨fun pins s σ H D I ⟨Z, F, R, sl, m, h1, h2, h3⟩ => ?_⟩
  unfold evS at h3
  · obtain ⟨fI, fd, ps, T, iC, tI, F1, hb, hno, h900⟩ := C.xf c fs ex
    refine (ps_raise C.calm C.tk (pmk_oex (dvs := []) (ds := []) T iC tI F1 (C.rm.mono (by omega)) hb .nil (passL (X := X)) hg hm ha hdb he hpl)).run pins s σ H D I ⟨Z, F, R, sl, m, h1, h2, (SPo.to (rel := Rels (G.W X)) h3 h2).imp ?_⟩
    rintro vs H1 ⟨xs, m1, F1, R1, _, l1, s1, r1, q1⟩
    unfold excF at q1
    rw [ex] at q1
    simp only [Option.bind_some] at q1
    by_cases hl : fs.length = xs.length
    · rw [if_pos hl] at q1
      refine ⟨by rw [← r1.length, ← hl]; omega, fun a hA => ?_⟩
      refine ⟨a, G.C c, vs, by rw [List.append_nil], by rw [List.length_map, ← r1.length, hl], T, fun f hf => ?_, upd_same, fun dx H' hdx hne hrest hHa hHd => ⟨rfl, dx, _, hHa, hHd, by rw [upd_ne hne] at hdx; exact hdx, ?_⟩⟩
      · obtain ⟨k, hk, rfl⟩ := List.mem_map.mp hf
        exact hno k hk
      · rw [upd_ne hne] at hdx
        have eH : upd (del H' a) dx (.xd ((fs.map G.nm).zip vs).reverse) = upd H1 dx (.xd ((fs.map G.nm).zip vs).reverse) := by
          funext b
          by_cases e1 : b = dx
          · subst e1; rw [upd_same, upd_same]
          · rw [upd_ne e1, upd_ne e1]
            by_cases e2 : b = a
            · subst e2
              rw [hA]
              unfold del
              exact if_pos rfl
            · rw [show del H' a b = H' b from if_neg e2, hrest b e2 e1, upd_ne e2]
        rw [eH]
        obtain ⟨s2, l2⟩ := s1.new (o := .xd ((fs.map G.nm).zip vs).reverse) hdx
        exact q1 _ _ _ σ dx _ l2 s2 (h2.mono (l1.trans l2)) upd_same ((relF_zip (W := G.W X) (r1.mono l2) hl).reverse)
    · rw [if_neg hl] at q1; exact q1.elim
end
end Pv

set_option Elab.async false
set_option linter.all false
set_option autoImplicit false
set_option maxRecDepth 100000
set_option maxHeartbeats 1000000
/-! PvV: try, where what is caught stands in the heap as a value. -/
namespace Pv
open PySem PySem.Spec PyProof.Rows L2
section
variable {X : Cx} {pins : List (Addr × Obj)} {σ : L2.St} {H : Hp} {s : Shared}
/-- an object of ours that is not told yet -/
theorem inv_track (I : Inv X pins σ H s) {a : Addr} {o : HO} (na : H a = none) (h0 : X.s_0.heap.get? a = none) (nL : a ≠ X.env.locals) (hp : ∀ p ∈ X.pn ++ pins, p.1 ≠ a) (hc : ∀ x c, X.env.cells.lookup x = some c → c ≠ a) (new : ObjOk X.prog X.w (upd H a o) s.heap a o) :
    Inv X pins σ (upd H a o) s := by
  refine ⟨I.ok, I.os, I.bare, ⟨I.base.keep, I.base.slot, fun b ob e n hx => ?_, I.base.there, fun b xs e => ?_, fun b ob u e => ?_, fun b ps e => ?_⟩, I.loc, I.cell, by rw [upd_ne nL.symm]; exact I.free, fun x c e => by rw [upd_ne (hc x c e)]; exact I.freeC x c e, fun p hp' => ?_, I.hok.laidN (fun _ _ e => e) na new, I.len⟩
  · rw [upd_ne (fun z => by rw [z, h0] at e; cases e)]
    exact I.base.free b ob e n hx
  · have h := I.base.tups b xs e
    rw [upd_ne (ne_of_none h na)]
    exact h
  · have h := I.base.frzs b ob u e
    rw [upd_ne (ne_of_none h na)]
    exact h
  · obtain ⟨more, h⟩ := I.base.tbls b ps e
    exact ⟨more, by rw [upd_ne (ne_of_none h na)]; exact h⟩
  · obtain ⟨e, n, ne, nf, d⟩ := I.pin p hp'
    exact ⟨e, by rw [upd_ne (hp p hp')]; exact n, ne, nf, d⟩
theorem inv_suite (I : Inv X pins σ H s) (a : Addr) : Inv (X.suite a (X.pn ++ pins)) [] σ H s :=
  ⟨I.ok.suite _ _, I.os, I.bare, I.base, I.loc, I.cell, I.free, I.freeC, fun p hp => I.pin p (by rw [List.append_nil] at hp; exact hp), I.hok, I.len⟩
theorem inv_unsuite {a : Addr} {pn' : List (Addr × Obj)} (I : Inv (X.suite a (X.pn ++ pins)) pn' σ H s) (ok : X.Ok) : Inv X pins σ H s :=
  ⟨ok, I.os, I.bare, I.base, I.loc, I.cell, I.free, I.freeC, fun p hp => I.pin p (List.mem_append_left _ hp), I.hok, I.len⟩
end
/-- the end behind a suite whose name goes -/
def goneE (i : Nat) (D : Ends) : Ends := { nx := fun σ' H' => D.nx (σ'.set i none) H', rt := D.rt, bk := fun σ' H' => D.bk (σ'.set i none) H', ct := fun σ' H' => D.ct (σ'.set i none) H' }
abbrev HdT : Type := Value × Option Nat × TS
/-- what the clauses wish of an exception of the body -/
def wMix (K : PySem.W.Frag) (Wout : WX) (D : Ends) : List HdT → WX
  | [] => Wout
  | (c, none, ts) :: r => fun cls d σ H => ∃ b, PySem.W.exmOne K cls c = some b ∧ (b = true → ∀ a, H a = none → ts D σ (upd H a (ExT cls d a))) ∧ (b = false → wMix K Wout D r cls d σ H)
  | (c, some i, ts) :: r => fun cls d σ H => ∃ b, PySem.W.exmOne K cls c = some b ∧ (b = true → ∀ a, H a = none → ts (goneE i D) (σ.set i (some (.ref a))) (upd H a (ExT cls d a))) ∧ (b = false → wMix K Wout D r cls d σ H)
inductive HdsT (X : Cx) : List ExceptHandler → List HdT → Prop
  | nil : HdsT X [] []
  | cons {x : Str} {c : Value} {ts : TS} {b₀ : Stmt} {suite : List Stmt} {np pos' : Pos} {hds : List ExceptHandler} {l : List HdT} (hc : Names X x c)
      (hsu : ∀ (a : Addr) (pn : List (Addr × Obj)), PSs (X.suite a pn) (b₀ :: suite) ts) (r : HdsT X hds l) :
      HdsT X (.ExceptHandler (some (.Name x np)) none (b₀ :: suite) pos' :: hds) ((c, none, ts) :: l)
  | named {x n : Str} {i : Nat} {c : Value} {ts : TS} {b₀ : Stmt} {suite : List Stmt} {np pos' : Pos} {hds : List ExceptHandler} {l : List HdT} (hc : Names X x c) (hi : X.N[i]? = some n) (hln : X.env.kindOf n = some .local)
      (hsu : ∀ (a : Addr) (pn : List (Addr × Obj)), PSs (X.suite a pn) (b₀ :: suite) ts) (r : HdsT X hds l) :
      HdsT X (.ExceptHandler (some (.Name x np)) (some n) (b₀ :: suite) pos' :: hds) ((c, some i, ts) :: l)
section
variable {X : Cx} {body : List Stmt} {h₀ : ExceptHandler} {hds : List ExceptHandler} {l : List HdT} {pos : Pos} {tb : WX → TS} {Wout : WX}
theorem ps_try_mix (hs : X.stack = X.env :: X.outer) (hf : X.env.frame = some X.env.locals) (hex : X.ex = []) (hN : X.N.Nodup) (tk : Takes X Wout)
    (hb : ∀ (W : WX) (pn : List (Addr × Obj)) (xe : Value → Shared → Prop), Takes (X.tr pn xe) W → PassesOwn (model X.prog X.w) X.A X.env xe → PSs (X.tr pn xe) body (tb W))
    (hh : HdsT X (h₀ :: hds) l) : PS X (.Try body (h₀ :: hds) [] [] pos) (fun D σ H => tb (wMix X.K Wout D l) D σ H) := by
  refine ⟨fun pins s σ H D I h => ?_⟩
  have ok := I.ok
  have hfr : X.A.frames = some (X.env :: X.outer) := by rw [ok.frames, hs]
  refine wpAny_Try_except ?_
  refine wpAny_mono ((hb (wMix X.K Wout D l) (X.pn ++ pins) (fun e s₁ => wpAny (model X.prog X.w) X.A (noteFrame e X.env) (fun _ s₂ => wpAny (model X.prog X.w) X.A (setFlight e none) (fun _ s₃ =>
    wpAny (model X.prog X.w) X.A (handleBy e X.env (h₀ :: hds)) (SP X pins D) X.xe s₃) X.xe s₂) X.xe s₁) (fun u s' xx => ?_) PassesOwn.looking).run [] s σ H D (I.toTry _) h) (fun f s1 hsp => ?_) (fun e s1 he => he)
  · -- the catch
    obtain ⟨a, B, sI, pins', σ', H', cls, d, rfl, J', nb, up, sky, na, os, ag, w⟩ := xx
    have J : Inv X pins σ' H' sI := J'.ofTry ok
    have sky' : Sky B (X.env :: X.outer) a (Zc cls d) X.env.locals s'.heap := by rw [← hs]; exact sky
    show wpAny (model X.prog X.w) X.A (noteFrame (.ref a) X.env) _ _ _
    refine Sky.land Zc.steady hfr hf sky' fun h3 fl3 up3 => ?_
    have J3 : Inv X pins σ' H' { s' with heap := h3 } := J.landed nb fl3.1 (up.trans up3) os ag
    obtain ⟨oe3, vs3, he3, hz3, hd3⟩ := fl3.there
    have notFr : ∀ {h : Heap} {o : Obj} {vs : Array Value}, h.FunFrames B (X.env :: X.outer) → h.get? a = some o → o.data = .fields vs → a ∉ frs (X.env :: X.outer) := fun {h o vs} ff e dd hm => by
      obtain ⟨_, o', e', hnf⟩ := ff.mem hm
      rw [e] at e'; cases e'
      exact hnf _ dd
    have nfr := notFr fl3.2.2.1 he3 hd3
    have nL : a ≠ X.env.locals := fun z => nfr (List.mem_filterMap.mpr ⟨X.env, List.mem_cons_self, by rw [hf, z]⟩)
    have nF : a ∉ X.fs := fun hm => by
      obtain ⟨e, he, q⟩ := List.mem_filterMap.mp hm
      exact nfr (List.mem_filterMap.mpr ⟨e, List.mem_cons_of_mem _ he, q⟩)
    have gone : B.get? a = none := fl3.2.1
    have h0 : X.s_0.heap.get? a = none := by
      cases e0 : X.s_0.heap.get? a with
      | none => rfl
      | some o0 =>
        obtain ⟨o', e1⟩ := J.base.there a o0 e0 (by rw [hex]; exact fun z => nomatch z)
        rw [nb a o' e1 (by rw [hs]; exact nfr)] at gone
        cases gone
    have hpa : ∀ p ∈ X.pn ++ pins, p.1 ≠ a := fun p hp z => by
      obtain ⟨e, _, ne, nf, _⟩ := J.pin p hp
      rw [z] at e ne nf
      rw [nb a _ e (by rw [hs]; exact nfr)] at gone
      cases gone
    have trk : ∀ {h : Heap} {oe : Obj} {vs : Array Value}, Inv X pins σ' H' { s' with heap := h } → h.get? a = some oe → Zc cls d oe → oe.data = .fields vs → Inv X pins σ' (upd H' a (ExT cls d a)) { s' with heap := h } := fun {h oe vs} K he hz hd =>
      inv_track K na h0 nL hpa (fun x c e z => by
        obtain ⟨v, oc, hcell⟩ := K.cell x c e
        subst z
        obtain ⟨e5, e6⟩ := hcell
        have e7 := Option.some.inj (he.symm.trans e5)
        rw [← e7, hd] at e6
        cases e6) ⟨⟨oe, vs, he, hz, hd⟩, ⟨oe, he⟩, fun h1 h2 ⟨oe, vs, e, hz, hd⟩ k2 => ⟨oe, vs, k2 _ e, hz, hd⟩⟩
    have S3 := inv_suite J3 a
    have go : ∀ {hds' : List ExceptHandler} {l' : List HdT}, HdsT X hds' l' → wMix X.K Wout D l' cls d σ' H' →
        wpAny (model X.prog X.w) X.A (handleBy (.ref a) X.env hds') (SP X pins D) X.xe { s' with heap := h3 } := by
      intro hds' l' hk
      induction hk with
      | nil =>
        intro w
        refine wpAny_handleBy_nil ?_
        obtain ⟨k1, k2, k3, oe, vs, T, oT, ts', he, hz, hd, h1, hr⟩ := id fl3
        unfold PySem.passOn
        refine wpAny_bind (wpAny_field he hd h1 ?_)
        rw [if_neg (show ¬ ((Value.ref T == Value.none) = true) from by simp)]
        have fin : wpAny (model X.prog X.w) X.A (setFlight (.ref a) X.env.frame) (fun _ s4 => wpAny (model X.prog X.w) X.A (throw (.ref a) : Sem Flow) (SP X pins D) X.xe s4) X.xe { s' with heap := h3 } := by
          rw [hf]
          refine HandSPX.setFlight_upZ fl3 fun h4 hh4 up4 => wpAny_throw (tk _ _ ?_)
          exact ⟨a, B, sI, pins, σ', H', cls, d, rfl, J, nb, (up.trans up3).trans up4, .inr (.inr (by rw [hs]; exact hh4)), na, os, ag, w⟩
        first
          | exact wpAny_bind (wpAny_pure (wpAny_bind fin))
          | exact wpAny_bind fin
      | @cons x c ts b₀ suite np pos' hds2 l2 hc hsu r ih =>
        intro w
        obtain ⟨b, hb1, hyes, hno⟩ := w
        refine wpAny_handleBy_cons (codeAny_handlers_test ?_) (by intro q; cases q)
        have LT : PySem.W.Looks (model X.prog X.w) h3 (typeOf (.ref a)) cls := fun A Q E s k q => wpAny_typeOf_ref (k _ _ he3) (by rw [hz3.1]; exact q)
        have LM := PySem.W.exm_one (M := model X.prog X.w) (J3.kIn) LT hb1
        have test : ∀ {Q : Value → Shared → Prop} {E : Value → Shared → Prop}, Q c { s' with heap := h3 } → wpAny (model X.prog X.w) (X.A.mark (some (.ref a))) (eval (.Name x np) X.env) Q E { s' with heap := h3 } := fun {Q E} q => by
          obtain ⟨hg, hdbg, hm | ⟨hm, hv, hnn⟩⟩ := hc
          · exact ld_glob (X := X.suite a (X.pn ++ pins)) S3 hg hm q hdbg
          · exact ld_blt (X := X.suite a (X.pn ++ pins)) S3 hg hm hv q hnn hdbg
        refine test (LM.here ?_)
        cases b with
        | true =>
          refine codeAny_handlers_suite ?_
          refine HandSPX.lands_againZ fl3 fun h4 fl4 up4 => ?_
          have J4 : Inv X pins σ' H' { s' with heap := h4 } := J.landed nb fl4.1 ((up.trans up3).trans up4) os ag
          obtain ⟨oe4, vs4, he4, hz4, hd4⟩ := fl4.there
          have S4 := inv_suite (trk J4 he4 hz4 hd4) a
          refine wpAny_mono ((hsu a (X.pn ++ pins)).run [] _ _ _ _ S4 (hyes rfl a na)) (fun f s6 hsp => ?_) (fun _ _ z => False.elim z)
          cases f with
          | next =>
            obtain ⟨σ6, H6, S6, q6⟩ := hsp
            exact ⟨_, _, inv_unsuite S6 ok, q6⟩
          | brk =>
            obtain ⟨σ6, H6, S6, q6⟩ := hsp
            exact ⟨_, _, inv_unsuite S6 ok, q6⟩
          | cont =>
            obtain ⟨σ6, H6, S6, q6⟩ := hsp
            exact ⟨_, _, inv_unsuite S6 ok, q6⟩
          | ret u =>
            obtain ⟨v6, σ6, H6, S6, r6, q6⟩ := hsp
            exact ⟨_, _, _, inv_unsuite S6 ok, r6, q6⟩
        | false =>
          show wpAny _ X.A (handleBy (.ref a) X.env hds2) _ _ _
          exact ih (hno rfl)
      | @named x n i c ts b₀ suite np pos' hds2 l2 hc hi hln hsu r ih =>
        intro w
        obtain ⟨b, hb1, hyes, hno⟩ := w
        refine wpAny_handleBy_cons (codeAny_handlers_test ?_) (by intro q; cases q)
        have LT : PySem.W.Looks (model X.prog X.w) h3 (typeOf (.ref a)) cls := fun A Q E s k q => wpAny_typeOf_ref (k _ _ he3) (by rw [hz3.1]; exact q)
        have LM := PySem.W.exm_one (M := model X.prog X.w) (J3.kIn) LT hb1
        have test : ∀ {Q : Value → Shared → Prop} {E : Value → Shared → Prop}, Q c { s' with heap := h3 } → wpAny (model X.prog X.w) (X.A.mark (some (.ref a))) (eval (.Name x np) X.env) Q E { s' with heap := h3 } := fun {Q E} q => by
          obtain ⟨hg, hdbg, hm | ⟨hm, hv, hnn⟩⟩ := hc
          · exact ld_glob (X := X.suite a (X.pn ++ pins)) S3 hg hm q hdbg
          · exact ld_blt (X := X.suite a (X.pn ++ pins)) S3 hg hm hv q hnn hdbg
        refine test (LM.here ?_)
        cases b with
        | true =>
          refine codeAny_handlers_suite_as ?_
          refine HandSPX.lands_againZ fl3 fun h4 fl4 up4 => ?_
          have J4 : Inv X pins σ' H' { s' with heap := h4 } := J.landed nb fl4.1 ((up.trans up3).trans up4) os ag
          obtain ⟨oe4, vs4, he4, hz4, hd4⟩ := fl4.there
          have S4 := inv_suite (trk J4 he4 hz4 hd4) a
          refine store_ok (X := X.suite a (X.pn ++ pins)) (v := .ref a) S4 hN hi (.inl hln) rfl (fun s5 S5 => ?_) (.inr hln)
          refine wpAny_mono ((hsu a (X.pn ++ pins)).run [] s5 _ _ _ S5 (hyes rfl a na)) (fun f s6 hsp => ?_) (fun _ _ z => False.elim z)
          have end_ : ∀ {σ6 : L2.St} {H6 : Hp} {Q : Shared → Prop}, Inv (X.suite a (X.pn ++ pins)) [] σ6 H6 s6 → (∀ s7, Inv X pins (σ6.set i none) H6 s7 → Q s7) →
              wpAny (model X.prog X.w) X.A (do bindName X.env n .none; unbindBehindTheSuite X.env n pos') (fun _ s7 => Q s7) X.xe s6 := fun {σ6 H6 Q} S6 hq => gone_ok (inv_unsuite S6 ok) hN hi hln hq
          cases f with
          | next =>
            obtain ⟨σ6, H6, S6, q6⟩ := hsp
            exact end_ S6 fun s7 J7 => ⟨_, _, J7, q6⟩
          | brk =>
            obtain ⟨σ6, H6, S6, q6⟩ := hsp
            exact end_ S6 fun s7 J7 => ⟨_, _, J7, q6⟩
          | cont =>
            obtain ⟨σ6, H6, S6, q6⟩ := hsp
            exact end_ S6 fun s7 J7 => ⟨_, _, J7, q6⟩
          | ret u =>
            obtain ⟨v6, σ6, H6, S6, r6, q6⟩ := hsp
            exact end_ S6 fun s7 J7 => ⟨_, _, _, J7, r6, q6⟩
        | false =>
          show wpAny _ X.A (handleBy (.ref a) X.env hds2) _ _ _
          exact ih (hno rfl)
    exact go hh w
  · cases f with
    | next =>
      obtain ⟨σ', H', J', q⟩ := hsp
      exact wpAny_execs_nil ⟨σ', H', J'.ofTry ok, q⟩
    | brk =>
      obtain ⟨σ', H', J', q⟩ := hsp
      exact ⟨σ', H', J'.ofTry ok, q⟩
    | cont =>
      obtain ⟨σ', H', J', q⟩ := hsp
      exact ⟨σ', H', J'.ofTry ok, q⟩
    | ret u =>
      obtain ⟨v, σ', H', J', r, q⟩ := hsp
      exact ⟨v, σ', H', J'.ofTry ok, r, q⟩
end
end Pv

set_option Elab.async false
set_option linter.all false
set_option autoImplicit false
set_option maxRecDepth 100000
set_option maxHeartbeats 1000000
/-! PvW: try; a def keeps what it evaluates to. -/
namespace Pv
open PySem PySem.Spec PyProof.Rows L2
section
variable {G : Gd} {n : Nat} {X : Cx} {Wx : WX} {σ : L2.St} {H : Hp} {Z F : Hp} {R : List Addr} {m : Mu}
theorem Cn.tr (C : Cn G n X Wx) {pn : List (Addr × Obj)} {xe : Value → Shared → Prop} {W : WX} (tk : Takes (X.tr pn xe) W) (po : PassesOwn (model X.prog X.w) X.A X.env xe) : Cn G n (X.tr pn xe) W :=
  ⟨C.calm, C.nd, tk, po, C.rm, C.xf, C.pnl, C.fns⟩
def hdT (G : Gd) (n : Nat) (X : Cx) : Hd → HdT
  | .h k i b => (.ref (G.C k), i, tSs G n X W0 b)
theorem catch_ok (cf : ClF G X.K) {D : Ends} {c : Nat} {dx : Addr} {fs : List (Nat × Pv.D)} {gs : List (Str × V)} {sl : Sl} (s1 : SR (G.W X) Z F R m H) (r1 : RS' (G.W X) F R sl σ) (hd : F dx = some (.xd gs)) (rf : RelF (G.W X) F R fs gs) {F0 : Hp} {R0 : List Addr} (l : Le F0 R0 F R) :
    ∀ {hs : List Hd}, SPo (G.W X) Z F0 R0 D Wx (evH G.P (run G.P n) hs c fs sl m) → wMix X.K Wx D (hs.map (hdT G n X)) (.ref (G.C c)) (some dx) σ H
  | [], h => by
    unfold evH at h
    exact h F R H σ dx gs l s1 r1 hd rf
  | .h k i b :: hs, h => by
    unfold evH at h
    by_cases hx : (G.P.xcls c && G.P.xcls k) = true
    · rw [if_pos hx] at h
      rw [Bool.and_eq_true] at hx
      have hm := cf.exm c k hx.1 hx.2
      have hno : (G.P.sub c k = false → wMix X.K Wx D (hs.map (hdT G n X)) (.ref (G.C c)) (some dx) σ H) := fun e => by
        rw [e] at h
        exact catch_ok cf s1 r1 hd rf l h
      have setup : ∀ a, H a = none → ∃ F2, Le F R F2 R ∧ SR (G.W X) Z F2 R m (upd H a (ExT (.ref (G.C c)) (some dx) a)) ∧ Rel (G.W X) F2 R (.exc c fs) (.ref a) := fun a ha => by
        obtain ⟨s2, l2⟩ := s1.new (o := ExT (.ref (G.C c)) (some dx) a) ha
        exact ⟨_, l2, s2, .exc upd_same (l2.ex _ _ hd) (rf.mono l2)⟩
      cases i with
      | none =>
        refine ⟨_, hm, fun e a ha => ?_, hno⟩
        obtain ⟨F2, l2, s2, re⟩ := setup a ha
        rw [e, if_pos rfl] at h
        simp only at h
        refine ⟨Z, F2, R, sl, m, s2, r1.mono l2, ?_⟩
        cases eb : evSs G.P (run G.P n) b sl m with
        | ok f m2 => rw [eb] at h; exact SPo.le (r := .ok f m2) h (l.trans l2) |> fun h => by cases f <;> exact h
        | exc => rw [eb] at h; exact h.elim
        | stuck => rw [eb] at h; exact h.elim
      | some i =>
        refine ⟨_, hm, fun e a ha => ?_, hno⟩
        obtain ⟨F2, l2, s2, re⟩ := setup a ha
        rw [e, if_pos rfl] at h
        simp only at h
        refine ⟨Z, F2, R, sl.set i (some (.exc c fs)), m, s2, (r1.mono l2).set re, ?_⟩
        have l3 := l.trans l2
        cases eb : evSs G.P (run G.P n) b (sl.set i (some (.exc c fs))) m with
        | ok f m2 =>
          rw [eb] at h
          cases f with
          | nxt s3 => exact fun F' R' H' σ' l' s r => h F' R' H' _ (l3.trans l') s r.set0
          | brk s3 => exact fun F' R' H' σ' l' s r => h F' R' H' _ (l3.trans l') s r.set0
          | cnt s3 => exact fun F' R' H' σ' l' s r => h F' R' H' _ (l3.trans l') s r.set0
          | ret v => exact fun F' R' H' v' l' s r => h F' R' H' v' (l3.trans l') s r
        | exc => rw [eb] at h; exact h.elim
        | stuck => rw [eb] at h; exact h.elim
    · rw [if_neg hx] at h; exact h.elim
/-- try: .. except .. -/
theorem s_try (C : Cn G n X Wx) (cf : ClF G X.K) {body : List Stmt} {h₀ : ExceptHandler} {hds : List ExceptHandler} {b' : List S} {k : Hd} {ks : List Hd} {pos : Pos} (hs : X.stack = X.env :: X.outer) (hf : X.env.frame = some X.env.locals) (hex : X.ex = [])
    (hb : ∀ (W : WX) (pn : List (Addr × Obj)) (xe : Value → Shared → Prop), Takes (X.tr pn xe) W → PassesOwn (model X.prog X.w) X.A X.env xe → PSs (X.tr pn xe) body (tSs G n (X.tr pn xe) W b')) (hh : HdsT X (h₀ :: hds) ((k :: ks).map (hdT G n X))) :
    PS X (.Try body (h₀ :: hds) [] [] pos) (tS G n X Wx (.try_ b' (k :: ks))) := by
  refine ⟨fun p s σ H D I ⟨Z, F, R, sl, m, h1, h2, h3⟩ => (ps_try_mix hs hf hex C.nd C.tk (tb := fun W => tSs G n X W b') hb hh).run p s σ H D I ⟨Z, F, R, sl, m, h1, h2, ?_⟩⟩
  unfold evS at h3
  cases eb : evSs G.P (run G.P n) b' sl m with
  | ok f m2 => rw [eb] at h3; cases f <;> exact h3
  | exc c fs s2 m2 =>
    rw [eb] at h3
    exact fun F' R' H' σ' dx gs l s r hd rf => catch_ok cf s r hd rf l h3
  | stuck => rw [eb] at h3; exact h3.elim
/-- a handler -/
theorem h_one {x : Str} {k : Nat} {b' : List S} {b₀ : Stmt} {suite : List Stmt} {np pos' : Pos} {hds : List ExceptHandler} {l : List HdT} (hc : Names X x (.ref (G.C k))) (hsu : ∀ (a : Addr) (pn : List (Addr × Obj)), PSs (X.suite a pn) (b₀ :: suite) (tSs G n (X.suite a pn) W0 b')) (r : HdsT X hds l) :
    HdsT X (.ExceptHandler (some (.Name x np)) none (b₀ :: suite) pos' :: hds) (hdT G n X (.h k none b') :: l) := .cons hc hsu r
theorem h_as {x y : Str} {i k : Nat} {b' : List S} {b₀ : Stmt} {suite : List Stmt} {np pos' : Pos} {hds : List ExceptHandler} {l : List HdT} (hc : Names X x (.ref (G.C k))) (hi : X.N[i]? = some y) (hln : X.env.kindOf y = some .local) (hsu : ∀ (a : Addr) (pn : List (Addr × Obj)), PSs (X.suite a pn) (b₀ :: suite) (tSs G n (X.suite a pn) W0 b')) (r : HdsT X hds l) :
    HdsT X (.ExceptHandler (some (.Name x np)) (some y) (b₀ :: suite) pos' :: hds) (hdT G n X (.h k (some i) b') :: l) := .named hc hi hln hsu r
theorem h_nil : HdsT X [] [] := .nil
end
end Pv

set_option Elab.async false
set_option linter.all false
set_option autoImplicit false
set_option maxRecDepth 100000
set_option maxHeartbeats 1000000
/-! PvX: a def's end; all defs. -/
namespace Pv
open PySem PySem.Spec PyProof.Rows L2
section
variable {W : Wl} {Z F : Hp} {R : List Addr} {m : Mu} {H : Hp} {Q : VK} {E : XK}
theorem endR_ok {keep : Bool} {b : Nat} {v : D} {m2 : Mu} (hb : R.length = b) (h : EPo W Z (Rel W) F R [] Q (fun c d _ H => E c d H) (endR keep b v m2)) : ∀ F' R' H' u, Le F R F' R' → SR W Z F' R' m2 H' → Rel W F' R' v u → Q u H' := by
  intro F' R' H' u l s r
  unfold endR at h
  have hle : b ≤ m2.length := by
    rw [← s.len]
    obtain ⟨r, rfl⟩ := l.re
    rw [List.length_append]
    omega
  split at h
  · exact h F' R' H' u l s r
  · split at h
    · split at h
      · rename_i i
        split at h
        · rename_i o eo
          split at h
          · rename_i hi
            split at h
            · rename_i o' m3 e1 e2
              cases r with
              | loc ha =>
                rename_i a
                obtain ⟨F3, k1, k2, k3⟩ := freezeK s hi ha eo e2 e1
                have e3 : R'.take b = R := by
                  obtain ⟨r, rfl⟩ := l.re
                  rw [← hb, List.take_left]
                rw [e3] at k1
                refine h F3 _ H' _ ⟨fun x o hx => k2 x o (l.ex x o hx), [a], rfl⟩ k1 (.loc ?_)
                rw [List.getElem?_append_right (by omega), hb, Nat.sub_self]
                rfl
            · exact h.elim
          · exact h.elim
        · exact h.elim
      · exact h.elim
    · split at h
      · rename_i v' m3 e1 e2
        obtain ⟨f1, f2, _⟩ := freeze s hle e2
        exact h _ _ H' u (l.freeze hb) f1 (f2 _ _ _ r e1)
      · exact h.elim
theorem end_ok {d : Df} {b : Nat} (hb : R.length = b) : ∀ {r : RS}, EPo W Z (Rel W) F R [] Q (fun c d _ H => E c d H) (runD d r b) → SPo W Z F R { nx := fun _ H' => Q .non H', rt := Q } (fun c d _ H => E c d H) r
  | .ok (.nxt s) m2, h => fun F' R' H' σ' l k _ => endR_ok hb h F' R' H' .non l k .non
  | .ok (.ret v) m2, h => fun F' R' H' u l k r => endR_ok hb h F' R' H' u l k r
  | .ok (.brk s) m2, h => h.elim
  | .ok (.cnt s) m2, h => h.elim
  | .stuck, h => h.elim
  | .exc c fs s m2, h => by
    intro F' R' H' σ' dx gs l k _ hd rf
    replace h : EPo W Z (Rel W) F R [] Q (fun c d _ H => E c d H) (endX b c fs m2) := h
    unfold endX at h
    have hle : b ≤ m2.length := by
      rw [← k.len]
      obtain ⟨r, rfl⟩ := l.re
      rw [List.length_append]
      omega
    split at h
    · exact h F' R' H' dx gs l k hd rf
    · split at h
      · rename_i fs' m3 e1 e2
        obtain ⟨f1, _, f3⟩ := freeze k hle e2
        exact h _ _ H' dx gs (l.freeze hb) f1 (froz_le _ _ hd) (f3 _ _ _ rf e1)
      · exact h.elim
end
section
variable {G : Gd} {n : Nat}
theorem slots0_rel {W : Wl} {F : Hp} {R : List Addr} {d : Df} {as : List D} {vs : List V} {N : List Str} (r : Rels W F R as vs) (hl : d.slots ≤ N.length) (h2 : as.length ≤ d.slots) : RS' W F R (slots0 d as) (start N vs) := by
  refine ⟨?_, fun i x e => ?_⟩
  · unfold slots0 L2.start
    simp only [List.length_append, List.length_map, List.length_replicate, r.length]
    have := r.length
    omega
  · unfold slots0 at e
    unfold L2.start
    by_cases hi : i < as.length
    · rw [List.getElem?_append_left (by simpa using hi), List.getElem?_map] at e
      cases e1 : as[i]? with
      | none => rw [e1] at e; cases e
      | some y =>
        rw [e1] at e
        cases e
        obtain ⟨v, e2, rv⟩ := r.get e1
        refine ⟨v, ?_, rv⟩
        rw [List.getElem?_append_left (by rw [List.length_map, ← r.length]; exact hi), List.getElem?_map, e2]
        rfl
    · rw [List.getElem?_append_right (by simpa using hi), List.getElem?_replicate] at e
      split at e <;> cases e
/-- what stands behind the top: the same in all bodies -/
structure Wd where
  P : Program
  w : World
  K : PySem.W.Frag
  mg : Str → Option Value
  base : Heap
/-- the defs keep what they evaluate to, n calls deep -/
structure AllN (G : Gd) (T : Wd) (n : Nat) : Prop where
  xf : ∀ c fs, G.P.exf c = some fs → ∀ X : Cx, X.prog = T.P → X.w = T.w → X.K = T.K → X.mg = T.mg → X.base = T.base → XfOk G X c fs
  pnl : ∀ f d, G.P.df f = some d → (G.pn f).length = d.ps.length
  fns : ∀ f d, G.P.df f = some d → FnOk T.P T.w T.K T.mg T.base (L2.CX T.P T.w) (3 * n) (G.fa f) (G.fd f) (G.pn f) (spEv G ⟨T.P, T.w, T.K, G.C, G.nm⟩ n f)
abbrev Wd.cx (T : Wd) (N : List Str) (qual : Str) (scope : Scope) (f : Addr) (cdv : Value) (A : Around) (outer : List Env) (s : Shared) (H : Hp) (E : XK) : Cx := cxOf (L2.CX T.P T.w) T.P T.w T.K T.mg T.base N qual scope f cdv A outer s H E
/-- the context of a def's body -/
theorem cn_of (T : Wd) (al : AllN G T n) {N ps : List Str} {qual : Str} {scope : Scope} {f : Addr} {cdv : Value} {A : Around} {outer : List Env} {s : Shared} {H : Hp} {E : XK} (S : FnScope N ps scope) (hr : Room (3 * n + 2) (A.deeper (envOfC qual scope s.heap.objs.size f cdv))) :
    Cn G n (T.cx N qual scope f cdv A outer s H E) (fun c d _ H => E c d H) :=
  ⟨rfl, S.nd, takes_of rfl rfl rfl rfl, passes_of rfl, hr, fun c fs h => al.xf c fs h _ rfl rfl rfl rfl rfl, al.pnl, al.fns⟩
/-- a def of the text -/
theorem def_ok (T : Wd) (al : AllN G T n) {f : Nat} {d : Df} {x qual : Str} {params : Arguments} {body : List Stmt} {scope : Scope} {dvs : List V} {kws : List (Str × V)} {N : List Str} (hf : G.P.df f = some d) (Fd : FunD T.K x qual params body scope dvs kws (G.fa f) (G.fd f)) (S : FnScope N (G.pn f) scope)
    (hl : d.slots ≤ N.length) (hp : d.ps.length ≤ d.slots) (hb : ∀ (cdv : Value) (A : Around) (outer : List Env) (s : Shared) (H : Hp) (E : XK), Cn G n (T.cx N qual scope (G.fa f) cdv A outer s H E) (fun c d _ H => E c d H) →
      PSs (T.cx N qual scope (G.fa f) cdv A outer s H E) body (tSs G n (T.cx N qual scope (G.fa f) cdv A outer s H E) (fun c d _ H => E c d H) d.body)) :
    FnOk T.P T.w T.K T.mg T.base (L2.CX T.P T.w) (3 * (n + 1)) (G.fa f) (G.fd f) (G.pn f) (spEv G ⟨T.P, T.w, T.K, G.C, G.nm⟩ (n + 1) f) := by
  refine FunD.ok (k := 3 * n + 2) Fd S (fun vs H Q E h => h.1) fun cdv A outer s H vs Q E hr ⟨h0, Z, F, R, as, m, h1, r, h⟩ => ⟨_, hb cdv A outer s H E (cn_of T al S hr), Z, F, R, slots0 d as, m, h1, ?_, ?_⟩
  · refine slots0_rel r hl ?_
    rw [run_len hf h]
    exact hp
  · have hlen := run_len hf h
    unfold run at h
    simp only [hf] at h
    rw [if_pos hlen] at h
    exact end_ok h1.len h
/-- no call at all -/
theorem all_zero (T : Wd) (xf : ∀ c fs, G.P.exf c = some fs → ∀ X : Cx, X.prog = T.P → X.w = T.w → X.K = T.K → X.mg = T.mg → X.base = T.base → XfOk G X c fs) (pnl : ∀ f d, G.P.df f = some d → (G.pn f).length = d.ps.length) : AllN G T 0 :=
  ⟨xf, pnl, fun f d hf => ⟨fun vs H Q E h => h.1, fun A outer s H args us vs Q E _ _ _ _ ⟨_, _, _, _, _, _, _, _, h⟩ => h.elim⟩⟩
/-- all defs, at all depths -/
theorem all_ok (T : Wd) (h0 : AllN G T 0) (hs : ∀ n, AllN G T n → ∀ f d, G.P.df f = some d → FnOk T.P T.w T.K T.mg T.base (L2.CX T.P T.w) (3 * (n + 1)) (G.fa f) (G.fd f) (G.pn f) (spEv G ⟨T.P, T.w, T.K, G.C, G.nm⟩ (n + 1) f)) : ∀ n, AllN G T n
  | 0 => h0
  | n + 1 => ⟨h0.xf, h0.pnl, hs n (all_ok T h0 hs n)⟩

/-! ### an exception class's __init__ -/
section
variable {T : Wd} {x qual : Str} {params : Arguments} {scope : Scope} {dvs : List V} {kws : List (Str × V)} {N : List Str} {fa : Addr} {fd : FuncData}
/-- def __init__(self, p): self.p' = p -/
theorem xinit1 {s1 p1 f1 : Str} {q1 q2 q3 q4 : Pos} (Fd : FunD T.K x qual params [.Assign [.Attribute (.Name s1 q1) f1 q2] (.Name p1 q3) q4] scope dvs kws fa fd) (S : FnScope N [s1, p1] scope) (hN : N = [s1, p1])
    (v1 : scope.names.lookup s1 = some .local) (v2 : scope.names.lookup p1 = some .local) (d1 : (s1 == ("__debug__" : Str)) = false := by decide) (d2 : (s1 == ("__classdict__" : Str)) = false := by decide) (d3 : (p1 == ("__debug__" : Str)) = false := by decide) (d4 : (p1 == ("__classdict__" : Str)) = false := by decide) :
    FnOk T.P T.w T.K T.mg T.base (L2.CX T.P T.w) 1 fa fd [s1, p1] (spXI T.K [f1]) := by
  subst hN
  refine FunD.ok (k := 0) Fd S (fun vs H Q E h => ?_) fun cdv A outer s H vs Q E hr h => ?_
  · obtain ⟨a, C, ws, rfl, hl, _⟩ := h
    simp only [List.length_cons] at hl ⊢
    omega
  · obtain ⟨a, C, ws, rfl, hl, oc, hno, ha, hq⟩ := h
    obtain ⟨y, rfl⟩ : ∃ y, ws = [y] := by
      match ws, hl with
      | [y], _ => exact ⟨y, rfl⟩
    refine ⟨_, pss_one (ps_ost (pe_var (i := 0) rfl (.inl v1) d1 d2) (pe_var (i := 1) rfl (.inl v2) d3 d4)), ?_⟩
    refine ⟨y, rfl, .ref a, rfl, a, C, rfl, oc, hno f1 (by simp), .inl ⟨ha, fun dx hd ne => hq dx _ hd ne (fun b h1 h2 => ?_) upd_same ?_⟩⟩
    · rw [upd_ne h1, upd_ne h2]
    · rw [upd_ne ne, upd_same]; rfl
/-- def __init__(self, p, q): self.p' = p; self.q' = q -/
theorem xinit2 {s1 p1 p2 f1 f2 : Str} {q1 q2 q3 q4 q5 q6 q7 q8 : Pos} (Fd : FunD T.K x qual params [.Assign [.Attribute (.Name s1 q1) f1 q2] (.Name p1 q3) q4, .Assign [.Attribute (.Name s1 q5) f2 q6] (.Name p2 q7) q8] scope dvs kws fa fd) (S : FnScope N [s1, p1, p2] scope) (hN : N = [s1, p1, p2])
    (v1 : scope.names.lookup s1 = some .local) (v2 : scope.names.lookup p1 = some .local) (v3 : scope.names.lookup p2 = some .local) (d1 : (s1 == ("__debug__" : Str)) = false := by decide) (d2 : (s1 == ("__classdict__" : Str)) = false := by decide) (d3 : (p1 == ("__debug__" : Str)) = false := by decide) (d4 : (p1 == ("__classdict__" : Str)) = false := by decide)
    (d5 : (p2 == ("__debug__" : Str)) = false := by decide) (d6 : (p2 == ("__classdict__" : Str)) = false := by decide) :
    FnOk T.P T.w T.K T.mg T.base (L2.CX T.P T.w) 1 fa fd [s1, p1, p2] (spXI T.K [f1, f2]) := by
  subst hN
  refine FunD.ok (k := 0) Fd S (fun vs H Q E h => ?_) fun cdv A outer s H vs Q E hr h => ?_
  · obtain ⟨a, C, ws, rfl, hl, _⟩ := h
    simp only [List.length_cons] at hl ⊢
    omega
  · obtain ⟨a, C, ws, rfl, hl, oc, hno, ha, hq⟩ := h
    obtain ⟨y, z, rfl⟩ : ∃ y z, ws = [y, z] := by
      match ws, hl with
      | [y, z], _ => exact ⟨y, z, rfl⟩
    refine ⟨_, pss_cons (ps_ost (pe_var (i := 0) rfl (.inl v1) d1 d2) (pe_var (i := 1) rfl (.inl v2) d3 d4)) (pss_one (ps_ost (pe_var (i := 0) rfl (.inl v1) d1 d2) (pe_var (i := 2) rfl (.inl v3) d5 d6))), ?_⟩
    refine ⟨y, rfl, .ref a, rfl, a, C, rfl, oc, hno f1 (by simp), .inl ⟨ha, fun dx hd ne => ?_⟩⟩
    refine ⟨z, rfl, .ref a, rfl, a, C, rfl, oc, hno f2 (by simp), .inr ⟨dx, [(f1, y)], upd_same, by rw [upd_ne ne, upd_same], by simp, ?_⟩⟩
    refine hq dx _ hd ne (fun b h1 h2 => ?_) ?_ ?_
    · rw [upd_ne h2, upd_ne h1, upd_ne h2]
    · rw [upd_ne ne.symm, upd_same]
    · rw [upd_same]; rfl
end
end
end Pv

set_option Elab.async false
set_option linter.all false
set_option autoImplicit false
set_option maxRecDepth 100000
set_option maxHeartbeats 1000000
/-! PvY: the program's data by names; what the top's heap must say of it. -/
namespace Pv
open PySem PySem.Spec PyProof.Rows L2 He
/-! ### names by numbers -/
def nmOf (ns : List Str) (k : Nat) : Str := match ns[k]? with
  | some x => x
  | none => ⟨(List.replicate (k + 1000) 0).toArray⟩
def nmOk (ns : List Str) : Bool := decide ns.Nodup && ns.all fun x => decide (x.cps.size < 1000)
theorem nmOf_inj {ns : List Str} (h : nmOk ns = true) (j k : Nat) (e : nmOf ns j = nmOf ns k) : j = k := by
  unfold nmOk at h
  rw [Bool.and_eq_true, decide_eq_true_eq, List.all_eq_true] at h
  obtain ⟨nd, sz⟩ := h
  unfold nmOf at e
  cases e1 : ns[j]? with
  | some x =>
    rw [e1] at e
    cases e2 : ns[k]? with
    | some y =>
      rw [e2] at e
      simp only at e
      subst e
      obtain ⟨h1, g1⟩ := List.getElem?_eq_some_iff.mp e1
      obtain ⟨h2, g2⟩ := List.getElem?_eq_some_iff.mp e2
      exact (List.getElem_inj nd).mp (g1.trans g2.symm)
    | none =>
      rw [e2] at e
      simp only at e
      have := of_decide_eq_true (sz x (List.mem_of_getElem? e1))
      rw [e] at this
      simp at this
      omega
  | none =>
    rw [e1] at e
    cases e2 : ns[k]? with
    | some y =>
      rw [e2] at e
      simp only at e
      have := of_decide_eq_true (sz y (List.mem_of_getElem? e2))
      rw [← e] at this
      simp at this
      omega
    | none =>
      rw [e2] at e
      simp only at e
      have := congrArg (fun x : Str => x.cps.size) e
      simp at this
      exact this
/-! ### a def: where it stands -/
/-- by a global's name; a class and its method; a staticmethod, a property of a class -/
inductive At where
  | glo (x : Str) | met (c m : Str) | sta (c m : Str) | pro (c m : Str)
def atOf (K : PySem.W.Frag) : At → Addr
  | .glo x => ga K x
  | .met c m => ma K (ga K c) m
  | .sta c m => (match PySem.W.recIn K (ma K (ga K c) m) "staticmethod" with
    | some (.ref f :: _) => f
    | _ => 0)
  | .pro c m => (match PySem.W.recIn K (ma K (ga K c) m) "property" with
    | some (.ref f :: _) => f
    | _ => 0)
structure DefX where
  at_ : At
  name : Str
  qual : Str
  params : Arguments
  body : List Stmt
  scope : Scope
  dfl : List Dv := []
def fnX (K : PySem.W.Frag) (p : At) : FnW := match K.lookup (atOf K p) with
  | some ⟨_, _, .func fd, _⟩ => some (fd.name, fd.qualname, fd.params, fd.body, fd.scope, fd.globals, fd.closure, fd.builtins)
  | _ => none
def DefX.val (d : DefX) : FnW := some (d.name, d.qual, d.params, .stmts d.body, d.scope, mainGlobals, [], builtinsNs)
def DefX.dvs (K : PySem.W.Frag) (d : DefX) : List V := d.dfl.map (Dv.v K)
def DefX.ok (K : PySem.W.Frag) (d : DefX) : Bool := PySem.W.keepIn K (.ref (atOf K d.at_)) && (match K.lookup (atOf K d.at_) with
  | some ⟨_, _, .func fd, _⟩ => PySem.W.codeIn K fd.code d.qual && dflB K fd.defaults (d.dvs K)
  | _ => false)
theorem DefX.funD {K : PySem.W.Frag} {d : DefX} (e : fnX K d.at_ = d.val) (c : d.ok K = true) : ∃ fd, FunD K d.name d.qual d.params d.body d.scope (d.dvs K) [] (atOf K d.at_) fd := by
  obtain ⟨kp, c2⟩ := ba c
  unfold fnX at e
  cases q : K.lookup (atOf K d.at_) with
  | none =>
    rw [q] at c2
    cases c2
  | some o =>
    obtain ⟨oc, od, dt, osl⟩ := o
    rw [q] at c2 e
    cases dt with
    | func fd =>
      obtain ⟨n1, n2, n3, n4, n5, n6, n7, n8, n9, n10, n11, n12, n13, n14, n15⟩ := fd
      have e2 : (some (n1, n2, n3, n4, n5, n6, n7, n15) : FnW) = some (d.name, d.qual, d.params, .stmts d.body, d.scope, mainGlobals, [], builtinsNs) := e
      simp only [Option.some.injEq, Prod.mk.injEq] at e2
      obtain ⟨h1, h2, h3, h4, h5, h6, h7, h8⟩ := e2
      subst h1 h2 h3 h4 h5 h6 h7 h8
      have c3 : (PySem.W.codeIn K n13 d.qual && dflB K n8 (d.dvs K)) = true := c2
      obtain ⟨k1, k3⟩ := ba c3
      exact ⟨_, ⟨oc, od, n8, n9, n10, n11, n12, n13, n14, osl, rfl, q, k1, dflB_ok k3, .inl rfl⟩, kp⟩
    | _ => cases c2
/-- C.m is a staticmethod -/
def stB (K : PySem.W.Frag) (C : Addr) (m : Str) (f : Addr) : Bool := (match PySem.W.findCls K (.ref C) (.type "type") m with
    | some (.get (.builtin g) (.ref p) .none (.ref D)) => decide (g = "staticmethod.__get__") && (decide (p = ma K C m) && decide (D = C))
    | _ => false) && ((match PySem.W.recIn K (ma K C m) "staticmethod" with
    | some (.ref h :: _) => decide (h = f)
    | _ => false) && (eqO (PySem.W.specialIn K (.ref C) "__getattribute__") (some (some (.builtin "type.__getattribute__"))) && PySem.W.readsIn K C (.type "type")))
theorem stB_ok {K : PySem.W.Frag} {C : Addr} {m : Str} {f : Addr} (h : stB K C m f = true) : PySem.W.findCls K (.ref C) (.type "type") m = some (.get (.builtin "staticmethod.__get__") (.ref (ma K C m)) .none (.ref C)) ∧ (∃ rest, PySem.W.recIn K (ma K C m) "staticmethod" = some (.ref f :: rest)) ∧
    PySem.W.specialIn K (.ref C) "__getattribute__" = some (some (.builtin "type.__getattribute__")) ∧ PySem.W.readsIn K C (.type "type") = true := by
  obtain ⟨h1, h⟩ := ba h
  obtain ⟨h2, h⟩ := ba h
  obtain ⟨h3, h4⟩ := ba h
  refine ⟨?_, ?_, eqO_ok h3, h4⟩
  · split at h1
    · rename_i g p D e
      obtain ⟨k1, k⟩ := ba h1
      obtain ⟨k2, k3⟩ := ba k
      rw [e, of_decide_eq_true k1, of_decide_eq_true k2, of_decide_eq_true k3]
    · cases h1
  · split at h2
    · rename_i g r e
      rw [e, of_decide_eq_true h2]
      exact ⟨_, rfl⟩
    · cases h2
/-! ### the data -/
structure PD where
  dfs : List Df
  defs : List DefX
  pns : List (List Str)
  cn : List Str
  nms : List Str
  cl : List Nat
  xc : List Nat
  fld : List (Nat × Nat)
  meth : List ((Nat × Nat) × Nat)
  prop : List ((Nat × Nat) × Nat) := []
  init : List (Nat × Nat)
  eqm : List (Nat × Nat) := []
  strm : List (Nat × Nat) := []
  boolm : List (Nat × Nat) := []
  keep : List Nat := []
  exf : List (Nat × List Nat) := []
  sub : List (Nat × Nat)
  glob : List D := []
def PD.P (d : PD) : Pr where
  glob := fun k => d.glob[k]?
  meth := fun c m => d.meth.lookup (c, m)
  prop := fun c m => d.prop.lookup (c, m)
  init := fun c => d.init.lookup c
  eqm := fun c => d.eqm.lookup c
  strm := fun c => d.strm.lookup c
  boolm := fun c => d.boolm.lookup c
  keepC := fun c => d.keep.contains c
  exf := fun c => d.exf.lookup c
  cls := fun c => d.cl.contains c
  xcls := fun c => d.xc.contains c
  fld := fun c f => d.fld.contains (c, f)
  sub := fun a b => d.sub.contains (a, b)
  df := fun f => d.dfs[f]?
def fdOf (K : PySem.W.Frag) (f : Addr) : FuncData := match K.lookup f with
  | some ⟨_, _, .func fd, _⟩ => fd
  | _ => PySem.W.fnOf "" "" ⟨[], [], none, [], [], none, []⟩ [] ⟨.function, [], false, false, []⟩ .none .none .none .none none .none .none
def PD.ad (d : PD) (K : PySem.W.Frag) (f : Nat) : Addr := match d.defs[f]? with
  | some x => atOf K x.at_
  | none => 0
def PD.C (d : PD) (K : PySem.W.Frag) (c : Nat) : Addr := match d.cn[c]? with
  | some x => ga K x
  | none => 0
def PD.G (d : PD) (K : PySem.W.Frag) : Gd where
  P := d.P
  C := d.C K
  nm := nmOf d.nms
  fa := d.ad K
  fd := fun f => fdOf K (d.ad K f)
  pn := fun f => (d.pns[f]?).getD []
  gn := fun _ => ""
  gv := fun _ => .non
theorem fdOf_eq {K : PySem.W.Frag} {x qual : Str} {params : Arguments} {body : List Stmt} {scope : Scope} {dvs : List V} {kws : List (Str × V)} {f : Addr} {fd : FuncData} (F : FunD K x qual params body scope dvs kws f fd) : fdOf K f = fd := by
  obtain ⟨_, _, _, _, _, _, _, _, _, _, _, h, _⟩ := F.ex
  unfold fdOf
  rw [h]
/-! ### what the heap must say, as a test -/
abbrev Fr : Type := PySem.W.Frag
def insCB (K : Fr) (C : Addr) : Bool := PySem.W.plainGet K C Str.empty && (PySem.W.hasDictIn K C && (PySem.W.plainOver K C && (eqO (PySem.W.findIn K (.ref C) "__setattr__") (some (some (.builtin "object.__setattr__"))) &&
  (eqO (PySem.W.findIn K (.ref C) "__class__") (some (some (.builtin "object.__class__"))) && (eqO (PySem.W.specialIn K (.builtin "object.__class__") "__get__") (some (some (.builtin "getset_descriptor.__get__"))) &&
  (decide (PySem.W.takesIn K (.builtin "object.__class__") = some true) && decide (PySem.W.mroIn K C (.type "object") = some true)))))))
theorem insCB_ok {K : Fr} {C : Addr} (h : insCB K C = true) : InsC K C := by
  simp only [insCB, Bool.and_eq_true, decide_eq_true_eq] at h
  obtain ⟨h1, h2, h3, h4, h5, h6, h7, h8⟩ := h
  exact ⟨⟨h1, h2, h3, eqO_ok h4⟩, eqO_ok h5, eqO_ok h6, h7, h8⟩
def excCB (K : Fr) (D : Addr) : Bool := eqO (PySem.W.findIn K (.ref D) "__getattribute__") (some (some (.builtin "BaseException.__getattribute__"))) && (eqO (PySem.W.findIn K (.ref D) "__getattr__") (some none) && (decide (PySem.W.subIn K (.ref D) (.type "BaseException") = some true) &&
  (PySem.W.hasDictIn K D && (eqO (PySem.W.findIn K (.ref D) "__class__") (some (some (.builtin "object.__class__"))) && (eqO (PySem.W.specialIn K (.builtin "object.__class__") "__get__") (some (some (.builtin "getset_descriptor.__get__"))) &&
  (decide (PySem.W.takesIn K (.builtin "object.__class__") = some true) && decide (PySem.W.mroIn K D (.type "object") = some true)))))))
theorem excCB_ok {K : Fr} {D : Addr} (h : excCB K D = true) : ExcC K D ∧ XfC K D := by
  simp only [excCB, Bool.and_eq_true, decide_eq_true_eq] at h
  obtain ⟨h1, h2, h3, h4, h5, h6, h7, h8⟩ := h
  exact ⟨⟨eqO_ok h1, eqO_ok h2, h3, h4, eqO_ok h5, eqO_ok h6, h7, h8⟩, ⟨eqO_ok h1, eqO_ok h2, h3, h4⟩⟩
def oexB (K : Fr) (C : Addr) : Bool := (match K.lookup C with
    | some ⟨.type t, _, .cls cd, sl⟩ => (match cd.mro, sl.toList with
      | .ref C' :: bm, [_, _, _, _, some (.builtin n), _] => decide (t = "type") && (decide (C' = C) && (decide (n = "ValueError.__new__") && (!cd.hasDel && (cd.hasDict && PySem.HandSPX.refsVE bm))))
      | _, _ => false)
    | _ => false) && (eqO (PySem.W.findIn K (.ref C) "__setattr__") (some (some (.builtin "object.__setattr__"))) && (decide (PySem.W.subIn K (.ref C) (.type "BaseException") = some true) && (decide (PySem.W.typeIn K (.ref C) = some (.type "type")) && PySem.W.keepIn K (.ref C))))
theorem oexB_ok {K : Fr} {C : Addr} (h : oexB K C = true) : OexC K C := by
  simp only [oexB, Bool.and_eq_true, decide_eq_true_eq] at h
  obtain ⟨h1, h2, h3, h4, h5⟩ := h
  refine ⟨?_, eqO_ok h2, h3, h4, h5⟩
  split at h1
  · rename_i t dd cd sl ho
    split at h1
    · rename_i C' bm k0 k1 k2 k3 n k5 hm hs
      simp only [Bool.and_eq_true, decide_eq_true_eq, Bool.not_eq_true'] at h1
      obtain ⟨rfl, rfl, rfl, hdel, hdct, hve⟩ := h1
      obtain ⟨nm, bs, mro, ns, qn, hd, sn, sub, ab, col, del⟩ := cd
      dsimp only at hm hdel hdct
      subst hm hdel hdct
      have hsl : sl = #[k0, k1, k2, k3, some (.builtin "ValueError.__new__"), k5] := by
        obtain ⟨l⟩ := sl
        simp only at hs
        rw [hs]
      subst hsl
      exact ⟨nm, qn, ns, bs, bm, sn, sub, ab, col, dd, k0, k1, k2, k3, k5, ho, hve⟩
    · cases h1
  · cases h1
def tyBB (K : Fr) (C : Addr) : Bool := (tyAll.all fun T => decide (PySem.W.kitOne K (.type T) (.ref C) = some false) && PySem.W.notFirst K C (.type T)) && tyNs.all fun n => decide (PySem.W.kitOne K (.ref C) (.type n) = some false)
def fnB (K : Fr) (C : Addr) (m : Str) (f : Addr) : Bool := eqO (PySem.W.findIn K (.ref C) m) (some (some (.ref f))) && (PySem.W.isFn K (.ref f) && PySem.W.keepIn K (.ref f))
theorem fnB_ok {K : Fr} {C : Addr} {m : Str} {f : Addr} (h : fnB K C m f = true) : Meth K C m f := by
  simp only [fnB, Bool.and_eq_true] at h
  exact ⟨eqO_ok h.1, h.2.1, h.2.2⟩
def propB (K : Fr) (C : Addr) (f : Str) (g : Addr) : Bool := match PySem.W.findIn K (.ref C) f with
  | some (some (.ref p)) => eqO (PySem.W.specialIn K (.ref p) "__get__") (some (some (.builtin "property.__get__"))) && (decide (PySem.W.takesIn K (.ref p) = some true) && (match PySem.W.recIn K p "property" with
    | some (.ref h :: _) => decide (h = g)
    | _ => false))
  | _ => false
theorem propB_ok {K : Fr} {C : Addr} {f : Str} {g : Addr} (h : propB K C f g = true) : ∃ p, PropOf K C f p g := by
  unfold propB at h
  split at h
  · rename_i p e
    simp only [Bool.and_eq_true, decide_eq_true_eq] at h
    obtain ⟨h1, h2, h3⟩ := h
    split at h3
    · rename_i h' r e2
      rw [decide_eq_true_eq] at h3
      subst h3
      exact ⟨p, e, eqO_ok h1, h2, _, e2⟩
    · cases h3
  · cases h
def eqCB (K : Fr) (C f : Addr) : Bool := fnB K C "__eq__" f && eqO (PySem.W.findIn K (.ref C) "__ne__") (some (some (.builtin "object.__ne__")))
def mkB (K : Fr) (C f : Addr) : Bool := PySem.W.makesIn K C && (eqO (PySem.W.findIn K (.ref C) "__init__") (some (some (.ref f))) && (PySem.W.isFn K (.ref f) && PySem.W.keepIn K (.ref C)))
theorem mkB_ok {K : Fr} {C f : Addr} (h : mkB K C f = true) : Mk K C f := by
  simp only [mkB, Bool.and_eq_true] at h
  exact ⟨h.1, eqO_ok h.2.1, h.2.2.1, h.2.2.2⟩
/-- all of it -/
def PD.says (d : PD) (K : Fr) : Bool := (d.cl.all fun c => insCB K (d.C K c)) && ((d.xc.all fun c => excCB K (d.C K c)) && (((d.cl ++ d.xc).all fun c => tyBB K (d.C K c)) &&
  (((d.cl ++ d.xc).all fun c => (d.cl ++ d.xc).all fun c' => decide (PySem.W.kitOne K (.ref (d.C K c')) (.ref (d.C K c)) = some (d.sub.contains (c', c)))) &&
  ((d.xc.all fun c => d.xc.all fun k => decide (PySem.W.exmOne K (.ref (d.C K c)) (.ref (d.C K k)) = some (d.sub.contains (c, k)))) &&
  ((d.eqm.all fun q => eqCB K (d.C K q.1) (d.ad K q.2)) && ((d.meth.all fun q => fnB K (d.C K q.1.1) (nmOf d.nms q.1.2) (d.ad K q.2)) && ((d.fld.all fun q => eqO (PySem.W.findIn K (.ref (d.C K q.1)) (nmOf d.nms q.2)) (some none)) &&
  ((d.prop.all fun q => propB K (d.C K q.1.1) (nmOf d.nms q.1.2) (d.ad K q.2)) && ((d.init.all fun q => mkB K (d.C K q.1) (d.ad K q.2)) && ((d.strm.all fun q => fnB K (d.C K q.1) "__str__" (d.ad K q.2)) &&
  ((d.boolm.all fun q => fnB K (d.C K q.1) "__bool__" (d.ad K q.2)) && d.exf.all fun q => oexB K (d.C K q.1))))))))))))
/-- the data's own sense -/
def PD.ok (d : PD) : Bool := nmOk d.nms && ((d.eqm ++ (d.strm ++ d.boolm)).all fun q => d.cl.contains q.1 && decide (q.2 < d.dfs.length)) && ((d.prop.all fun q => d.cl.contains q.1.1 && decide (q.2 < d.dfs.length)) && d.init.all fun q => decide (q.2 < d.dfs.length))
theorem lookup_mem {α β : Type} [BEq α] [LawfulBEq α] {a : α} {b : β} : ∀ {l : List (α × β)}, l.lookup a = some b → (a, b) ∈ l
  | [], h => by cases h
  | (x, y) :: l, h => by
    by_cases e : (a == x) = true
    · rw [List.lookup, e] at h
      simp only [Option.some.injEq] at h
      have := LawfulBEq.eq_of_beq e
      subst this; subst h
      exact List.mem_cons_self
    · have e' : (a == x) = false := by simpa using e
      rw [List.lookup, e'] at h
      exact List.mem_cons_of_mem _ (lookup_mem h)
theorem get_of_lt {α : Type} {l : List α} {k : Nat} (h : k < l.length) : ∃ d, l[k]? = some d := ⟨l[k], List.getElem?_eq_getElem h⟩
theorem clF_of {d : PD} {K : Fr} (hd : d.ok = true) (hs : d.says K = true) (hdf : ∀ f x, d.dfs[f]? = some x → PySem.W.keepIn K (.ref (d.ad K f)) = true ∧ Binds K (fdOf K (d.ad K f)) ((d.pns[f]?).getD []) []) : ClF (d.G K) K := by
  simp only [PD.ok, Bool.and_eq_true, List.all_eq_true, List.mem_append, decide_eq_true_eq] at hd
  simp only [PD.says, Bool.and_eq_true, List.all_eq_true, List.mem_append, decide_eq_true_eq] at hs
  obtain ⟨⟨o1, o2⟩, o3, o4⟩ := hd
  obtain ⟨s1, s2, s3, s4, s5, s6, s7, s8, s9, s10, s11, s12, s13⟩ := hs
  have cm : ∀ {l : List Nat} {c : Nat}, l.contains c = true → c ∈ l := fun {l c} h => by simpa using h
  have km : ∀ {c : Nat}, (d.cl.contains c || d.xc.contains c) = true → c ∈ d.cl ∨ c ∈ d.xc := fun {c} h => by
    rw [Bool.or_eq_true] at h
    exact h.imp cm cm
  refine ⟨fun f g e => nmOf_inj o1 f g e, fun c h => insCB_ok (s1 c (cm h)), fun c h => excCB_ok (s2 c (cm h)), fun c h T hT => ?_, fun c h n hn => ?_, fun c c' h h' => s4 c (km h) c' (km h'), fun c k h h' => s5 c (cm h) k (cm h'), fun c f h => ?_, fun c m f h => fnB_ok (s7 _ (lookup_mem h)), fun c f h => eqO_ok (s8 (c, f) (by simpa [PD.G, PD.P] using h)), fun c f g h => ?_, fun f x h => hdf f x h, fun c f h => ?_, fun c f h => ?_, fun c f h => ?_⟩
  · have := s3 c (km h)
    simp only [tyBB, Bool.and_eq_true, List.all_eq_true, decide_eq_true_eq] at this
    exact this.1 T hT
  · have := s3 c (km h)
    simp only [tyBB, Bool.and_eq_true, List.all_eq_true, decide_eq_true_eq] at this
    exact this.2 n hn
  · have hm := lookup_mem (show d.eqm.lookup c = some f from h)
    have := s6 _ hm
    simp only [eqCB, Bool.and_eq_true] at this
    have h2 := o2 _ (.inl hm)
    have h3 := fnB_ok this.1
    exact ⟨h2.1, ⟨h3.at_, h3.fn, eqO_ok this.2⟩, get_of_lt h2.2⟩
  · have hm := lookup_mem (show d.prop.lookup (c, f) = some g from h)
    have h2 := o3 _ hm
    exact ⟨h2.1, propB_ok (s9 _ hm), get_of_lt h2.2⟩
  · have hm := lookup_mem (show d.strm.lookup c = some f from h)
    have h2 := o2 _ (.inr (.inl hm))
    have h3 := fnB_ok (s11 _ hm)
    exact ⟨h2.1, h3.at_, h3.fn, get_of_lt h2.2⟩
  · have hm := lookup_mem (show d.boolm.lookup c = some f from h)
    have h2 := o2 _ (.inr (.inr hm))
    have h3 := fnB_ok (s12 _ hm)
    exact ⟨h2.1, h3.at_, h3.fn, get_of_lt h2.2⟩
  · have hm := lookup_mem (show d.init.lookup c = some f from h)
    exact ⟨mkB_ok (s10 _ hm), get_of_lt (o4 _ hm)⟩
end Pv

set_option Elab.async false
set_option linter.all false
set_option autoImplicit false
set_option maxRecDepth 100000
set_option maxHeartbeats 1000000
/-! PvZ: the head's hook; the forms that the printer writes. -/
namespace Pv
open PySem PySem.Spec PyProof.Rows L2 He

/-! ### the hook: a test of what the names reach, the defs, the tables -/
abbrev AlP : Type := (Bool × List FnW) × List (Option (List (Option (Str × Int))))
def obsP (pr : Fr → Bool) (fn : List DefX) (ts : List Tab) (K : Fr) : AlP := ((pr K && fn.all fun d => d.ok K, fn.map fun d => fnX K d.at_), ts.map fun t => dicW K (t.1 K))
def valP (fn : List DefX) (ts : List Tab) (w : World) : AlP := ((true, fn.map DefX.val), ts.map fun t => some (keysIn w.params t.2))
def SaysP (pr : Fr → Bool) (fn : List DefX) (ts : List Tab) (w : World) (K : Fr) : Prop := obsP pr fn ts K = valP fn ts w
def obsPG (n : Nat) (pr : Fr → Bool) (fn : List DefX) (ts : List Tab) (g : Addr → Option Obj) : AlP := obsP pr fn ts (frG g (cStatics :: asD g n))
def hookP (n : Nat) (pr : Fr → Bool) (fn : List DefX) (ts : List Tab) : PySem.W.Hook where
  α := AlP
  obs := fun s => obsPG n pr fn ts s.heap.get?
  val := fun w => valP fn ts w
  says := fun w h => ∃ K : Fr, K.In h ∧ SaysP pr fn ts w K
  of := fun _ _ e => ⟨_, frG_in, e⟩
  keeps := fun _ _ _ ⟨K, hK, c⟩ k => ⟨K, PySem.W.Frag.In.keeps hK k, c⟩
theorem obsPG_eq {n : Nat} {pr : Fr → Bool} {fn : List DefX} {ts : List Tab} {g : Addr → Option Obj} {s : Shared} (h : ∀ a, g a = s.heap.get? a) : obsPG n pr fn ts g = (hookP n pr fn ts).obs s := by
  have e : g = s.heap.get? := funext h
  show obsPG n pr fn ts g = obsPG n pr fn ts s.heap.get?
  rw [e]
section
variable {pr : Fr → Bool} {fn : List DefX} {ts : List Tab} {w : World} {K : Fr}
theorem SaysP.parts (c : SaysP pr fn ts w K) : (pr K = true ∧ (fn.all fun d => d.ok K) = true) ∧ fn.map (fun d => fnX K d.at_) = fn.map DefX.val ∧ ts.map (fun t => dicW K (t.1 K)) = ts.map fun t => some (keysIn w.params t.2) := by
  have h1 := congrArg (fun x : AlP => x.1.1) c
  have h2 := congrArg (fun x : AlP => x.1.2) c
  have h3 := congrArg (fun x : AlP => x.2) c
  replace h1 : (pr K && fn.all fun d => d.ok K) = true := h1
  rw [Bool.and_eq_true] at h1
  exact ⟨h1, h2, h3⟩
theorem SaysP.def_ (c : SaysP pr fn ts w K) (i : Nat) {d : DefX} (h : fn[i]? = some d := by rfl) : ∃ fd, FunD K d.name d.qual d.params d.body d.scope (d.dvs K) [] (atOf K d.at_) fd := by
  obtain ⟨⟨_, h1⟩, h2, _⟩ := c.parts
  refine DefX.funD ?_ (List.all_eq_true.mp h1 d (List.mem_of_getElem? h))
  have e := congrArg (fun l => l[i]?) h2
  simp only [List.getElem?_map, h, Option.map_some, Option.some.injEq] at e
  exact e
theorem SaysP.tab (c : SaysP pr fn ts w K) (i : Nat) {t : Tab} (h : ts[i]? = some t := by rfl) : dicW K (t.1 K) = some (keysIn w.params t.2) := by
  obtain ⟨_, _, h3⟩ := c.parts
  have e := congrArg (fun l => l[i]?) h3
  simp only [List.getElem?_map, h, Option.map_some, Option.some.injEq] at e
  exact e
end
/-- a def, by its address in K -/
theorem fund_of {K : Fr} {d : DefX} {a : Addr} (h : ∃ fd, FunD K d.name d.qual d.params d.body d.scope (d.dvs K) [] (atOf K d.at_) fd) (e : atOf K d.at_ = a) : FunD K d.name d.qual d.params d.body d.scope (d.dvs K) [] a (fdOf K a) := by
  obtain ⟨fd, F⟩ := h
  subst e
  rw [fdOf_eq F]
  exact F
/-- a property of all of a list, by places -/
def AllF {α : Type} (p : Nat → α → Prop) : Nat → List α → Prop
  | _, [] => True
  | i, d :: ds => p i d ∧ AllF p (i + 1) ds
theorem AllF.get {α : Type} {p : Nat → α → Prop} : ∀ {l : List α} {i f : Nat} {d : α}, AllF p i l → l[f]? = some d → p (i + f) d
  | [], _, _, _, _, h => by simp at h
  | x :: l, i, 0, d, a, h => by simp at h; subst h; exact a.1
  | x :: l, i, f + 1, d, a, h => by
    have := AllF.get (f := f) a.2 (by simpa using h)
    rw [Nat.add_assoc, Nat.add_comm 1 f] at this
    exact this
theorem AllF.at {α : Type} {p : Nat → α → Prop} {l : List α} {f : Nat} {d : α} (a : AllF p 0 l) (h : l[f]? = some d) : p f d := by
  have := a.get h
  rwa [Nat.zero_add] at this

/-! ### the printer's forms -/
def visB (sc : Scope) (x : Str) : Bool := match sc.names.lookup x with
  | some .local => true
  | some .cell => true
  | some .free => true
  | _ => false
def okN (x : Str) : Bool := !(x == ("__debug__" : Str)) && !(x == ("__classdict__" : Str))
section
variable {G : Gd} {n : Nat} {X : Cx} {Wx : WX}
theorem visB_ok {sc : Scope} {x : Str} (h : visB sc x = true) : Vis sc x := by
  unfold visB at h
  unfold Vis
  split at h <;> first | (rename_i e; rw [e]; simp) | cases h
theorem v_ (i : Nat) {x : Str} {pos : Pos} (h : (visB X.env.scope x && okN x) = true) (hN : X.N[i]? = some x) : PE X (.Name x pos) (tE G n X Wx (.var i)) := by
  rw [Bool.and_eq_true] at h
  obtain ⟨h1, h2⟩ := h
  simp only [okN, Bool.and_eq_true, Bool.not_eq_true'] at h2
  exact e_var hN (visB_ok h1) h2.1 h2.2
def locB (fnx : Bool) (sc : Scope) (x : Str) : Bool := match sc.names.lookup x with
  | some .local => true
  | some .cell => fnx
  | _ => false
theorem gv_ (i : Nat) {x : Str} {pos : Pos} (nd : X.N.Nodup) (h : locB (X.fn x) X.env.scope x = true) (hN : X.N[i]? = some x) : PG X (.Name x pos) (tGt G X (.v i)) := by
  unfold locB at h
  split at h
  · rename_i e
    exact g_v nd hN (.inl e) (.inr e)
  · rename_i e
    exact g_v nd hN (.inr e) (.inl h)
  · cases h
theorem gl_ {x : Str} (h : X.env.kindOf x = some .globalImplicit) : Gl X x := h
theorem neg_ {a : Expr} {a' : E} {pos : Pos} (ha : PE X a (tE G n X Wx a')) : PE X (.UnaryOp .USub a pos) (tE G n X Wx (.neg a')) := by
  refine ⟨fun p s σ H Q I ⟨Z, F, R, sl, m, h1, h2, h3⟩ => ?_⟩
  unfold evE at h3
  refine (pe_un un_neg ha).run p s σ H Q I (tE_to h1 h2 h3 fun v H1 x m1 F1 R1 l1 s1 r1 q1 => ?_)
  split at q1
  · cases r1
    exact ⟨_, rfl, q1.here s1 (.int _)⟩
  · exact q1.elim
/-- a name of the top that stands for an int, a text -/
theorem gi_ (k : Nat) {x : Str} {i : Int} {pos : Pos} (hg : Gl X x) (hm : ∃ t, X.mg x = some (.int i t)) (hd : G.P.glob k = some (.int i)) (h : okN x = true) : PE X (.Name x pos) (tE G n X Wx (.glo k)) := by
  obtain ⟨t, hm⟩ := hm
  simp only [okN, Bool.and_eq_true, Bool.not_eq_true'] at h
  exact e_glo (v := .int i) hg hm ⟨t, rfl⟩ (fun d e F R => by rw [hd] at e; cases e; exact .int i) h.1
theorem gs_ (k : Nat) {x z : Str} {pos : Pos} (hg : Gl X x) (hm : ∃ t, X.mg x = some (.str z t)) (hd : G.P.glob k = some (.str z)) (h : okN x = true) : PE X (.Name x pos) (tE G n X Wx (.glo k)) := by
  obtain ⟨t, hm⟩ := hm
  simp only [okN, Bool.and_eq_true, Bool.not_eq_true'] at h
  exact e_glo (v := .str z) hg hm ⟨t, rfl⟩ (fun d e F R => by rw [hd] at e; cases e; exact .str z) h.1
/-- .. a thing of the heap -/
theorem gr_ (k : Nat) {x : Str} {a : Addr} {d : D} {pos : Pos} (hg : Gl X x) (hm : X.mg x = some (.ref a)) (hd : G.P.glob k = some d) (hr : ∀ F R, Rel (G.W X) F R d (.ref a)) (h : okN x = true) : PE X (.Name x pos) (tE G n X Wx (.glo k)) := by
  simp only [okN, Bool.and_eq_true, Bool.not_eq_true'] at h
  exact e_glo (v := .ref a) hg hm rfl (fun d' e F R => by rw [hd] at e; cases e; exact hr F R) h.1
/-- classes that isinstance is asked with -/
theorem cb_ {x : Str} {N : String} {pos : Pos} (hg : Gl X x) (hm : X.mg x = none) (hv : bootBuiltins x = some (.type N)) (hn : x ≠ "__name__" := by decide) (hd : (x == ("__debug__" : Str)) = false := by decide) : PE X (.Name x pos) (tC (clsV G.C (.bty N))) := pe_bltn hg hm hv rfl hn hd
theorem co_ {x : Str} {c : Nat} {pos : Pos} (hg : Gl X x) (hm : X.mg x = some (.ref (G.C c))) (hd : (x == ("__debug__" : Str)) = false := by decide) : PE X (.Name x pos) (tC (clsV G.C (.cls c))) := pe_glob hg hm rfl hd
/-- tuples of texts, ints -/
def dvD : Dv → Option D
  | .int i => some (.int i)
  | .str x => some (.str x)
  | .bl b => some (.bl b)
  | .non => some .non
  | _ => none
theorem dvD_rel {W : Wl} {F : Hp} {R : List Addr} {K : Fr} : ∀ {v : Dv} {d : D}, dvD v = some d → Rel W F R d (v.v K)
  | .int i, _, e => by cases e; exact .int i
  | .str x, _, e => by cases e; exact .str x
  | .bl b, _, e => by cases e; exact .bl b
  | .non, _, e => by cases e; exact .non
  | .byt _, _, e => by cases e
  | .flt _, _, e => by cases e
  | .ty _, _, e => by cases e
  | .glo _, _, e => by cases e
  | .adr _, _, e => by cases e
def dvDs : List Dv → Option (List D)
  | [] => some []
  | v :: vs => (dvD v).bind fun d => (dvDs vs).map (d :: ·)
theorem dvDs_rel {W : Wl} {F : Hp} {R : List Addr} {K : Fr} : ∀ {vs : List Dv} {ds : List D}, dvDs vs = some ds → Rels W F R ds (vs.map (Dv.v K))
  | [], _, e => by cases e; exact .nil
  | v :: vs, _, e => by
    unfold dvDs at e
    obtain ⟨d, e1, e2⟩ := Option.bind_eq_some_iff.mp e
    obtain ⟨ds, e3, rfl⟩ := map_of e2
    exact .cons (dvD_rel e1) (dvDs_rel e3)
theorem tup_rel {W : Wl} {F : Hp} {R : List Addr} {x : Str} {vs : List Dv} {ds : List D} (h : tupB W.K x vs = true) (e : dvDs vs = some ds) : Rel W F R (.tup ds) (.ref (ga W.K x)) := .tup (tupB_ok h F) (dvDs_rel e)
/-- a dict of the top: texts to ints, texts -/
def dvA : Dv → Option D
  | .int i => some (.int i)
  | .str x => some (.str x)
  | _ => none
def dvK : List (Str × Dv) → Option (List (Key × D))
  | [] => some []
  | q :: qs => (dvA q.2).bind fun d => (dvK qs).map ((.inr q.1, d) :: ·)
theorem dvA_rel {K : Fr} : ∀ {v : Dv} {d : D}, dvA v = some d → RelA d (v.v K)
  | .int i, _, e => by cases e; exact .int i
  | .str x, _, e => by cases e; exact .str x
  | .bl b, _, e => by cases e
  | .non, _, e => by cases e
  | .byt _, _, e => by cases e
  | .flt _, _, e => by cases e
  | .ty _, _, e => by cases e
  | .glo _, _, e => by cases e
  | .adr _, _, e => by cases e
theorem keyB {a b : Key} (h : a = b) : (a == b) = true := by
  subst h
  cases a <;> exact decide_eq_true rfl
theorem keyB0 {a b : Key} (h : a ≠ b) : (a == b) = false := by
  cases a with
  | inl i => cases b with
    | inl j => exact (beq_eq_false_iff_ne.mpr fun e => h (congrArg _ e) : (i == j) = false)
    | inr y => rfl
  | inr x => cases b with
    | inl j => rfl
    | inr y => exact (beq_eq_false_iff_ne.mpr fun e => h (congrArg _ e) : (x == y) = false)
theorem dvK_look {K : Fr} {z : Str} : ∀ {qs : List (Str × Dv)} {kvs : List (Key × D)}, dvK qs = some kvs → (kvs.lookup (.inr z) = none → ∀ q ∈ qs, q.1 ≠ z) ∧ ∀ d, kvs.lookup (.inr z) = some d → ∃ q ∈ qs, q.1 = z ∧ RelA d (q.2.v K)
  | [], _, e => by cases e; exact ⟨fun _ q hq => (nomatch hq), fun d h => by cases h⟩
  | q :: qs, _, e => by
    unfold dvK at e
    obtain ⟨d, e1, e2⟩ := Option.bind_eq_some_iff.mp e
    obtain ⟨ds, e3, rfl⟩ := map_of e2
    obtain ⟨i1, i2⟩ := dvK_look (K := K) (z := z) e3
    by_cases hz : z = q.1
    · subst hz
      have hb : ((Sum.inr q.1 : Key) == Sum.inr q.1) = true := keyB rfl
      simp only [List.lookup, hb]
      refine ⟨fun h => absurd h (by simp), fun d' h => ?_⟩
      obtain rfl := Option.some.inj h
      exact ⟨q, List.mem_cons_self, rfl, dvA_rel e1⟩
    · have hb : ((Sum.inr z : Key) == Sum.inr q.1) = false := keyB0 fun e => hz (Sum.inr.inj e)
      simp only [List.lookup, hb]
      refine ⟨fun h p hp => ?_, fun d' h => ?_⟩
      · rcases List.mem_cons.mp hp with rfl | hp
        · exact fun e => hz e.symm
        · exact i1 h p hp
      · obtain ⟨p, hp, k⟩ := i2 d' h
        exact ⟨p, List.mem_cons_of_mem _ hp, k⟩
theorem keys_none {P : Params} {z : Str} : ∀ {l : List DictEntry} {ks : List Str}, l.map He.keyOf = keysIn P ks → z ∉ ks → l.find? (·.key.isStr z) = none ∧ l.any (·.refKey) = false
  | [], [], _, _ => ⟨rfl, rfl⟩
  | [], _ :: _, e, _ => by cases e
  | _ :: _, [], e, _ => by cases e
  | en :: l, k :: ks, e, hz => by
    unfold keysIn at e
    rw [List.map_cons, List.map_cons] at e
    injection e with e1 e2
    obtain ⟨h1, h2⟩ := keys_none (P := P) (z := z) (l := l) (ks := ks) e2 fun h => hz (List.mem_cons_of_mem _ h)
    unfold He.keyOf at e1
    split at e1
    · rename_i x t hk
      simp only [Option.some.injEq, Prod.mk.injEq] at e1
      have hx : x ≠ z := fun h => hz (by rw [← h, e1.1]; exact List.mem_cons_self)
      refine ⟨?_, ?_⟩
      · rw [List.find?_cons, show en.key.isStr z = false from by rw [hk]; simpa [Value.isStr] using hx, h1]
      · rw [List.any_cons, h2, Bool.or_false]
        unfold DictEntry.refKey
        rw [hk]
    · cases e1
theorem dicW_none {K : Fr} {a : Addr} {P : Params} {ks : List Str} {z : Str} (h : dicW K a = some (keysIn P ks)) (hz : z ∉ ks) : PySem.W.nsIn K a z = some none := by
  unfold dicW at h
  split at h
  · rename_i c es n sl ho
    split at h
    · obtain ⟨h1, h2⟩ := keys_none (Option.some.inj h) hz
      unfold PySem.W.nsIn
      rw [ho]
      show (match es.toList.find? (·.key.isStr z) with
        | some e => some (some e.val)
        | none => if es.toList.any (·.refKey) then none else some none) = some none
      rw [h1]
      show (if es.toList.any (·.refKey) then none else some none) = some none
      rw [h2]
      rfl
    · cases h
  · cases h
theorem dic_rel {W : Wl} {F : Hp} {R : List Addr} {a : Addr} {qs : List (Str × Dv)} {kvs : List (Key × D)} (hk : dicW W.K a = some (keysIn W.w.params (qs.map (·.1)))) (hv : valsB W.K a qs = true) (e : dvK qs = some kvs) : Rel W F R (.dic kvs) (.ref a) := by
  obtain ⟨es, n, D⟩ := dicW_ok hk
  refine .kdic ⟨es, n, D, fun z => ?_⟩
  obtain ⟨i1, i2⟩ := dvK_look (K := W.K) (z := z) e
  refine ⟨fun h => dicW_none hk fun hz => ?_, fun d h => ?_⟩
  · obtain ⟨q, hq, e⟩ := List.mem_map.mp hz
    exact i1 h q hq e
  · obtain ⟨q, hq, rfl, ra⟩ := i2 d h
    obtain ⟨u, h1, h2⟩ := valsB_ok hv hq
    exact ⟨u, _, h1, h2, ra⟩
end

/-! ### call patterns -/
section
variable {G : Gd} {K : Fr}
theorem kbd_p {f nP : Nat} {d : Df} (hb : Binds K (G.fd f) (G.pn f) []) (hd : G.P.df f = some d) (hl : nP = (G.pn f).length) (hp : d.ps.length = (G.pn f).length) : KBd G K f nP [] [] := by
  intro s us ws kin e1 e2
  cases ws with
  | cons => cases e2
  | nil =>
  have hb := hb s us kin (by simpa using e1.trans hl)
  rw [List.append_nil] at hb
  refine ⟨us, hb, fun W F R as zs as' vs us0 d' hd' ra rv rz rw_ hk => ?_⟩
  rw [hd] at hd'
  cases hd'
  cases rw_
  cases rz
  rw [bindK, bindK_go _ _ _ (by rw [ra.length, rv.length, e1, hl, hp])] at hk
  cases hk
  exact ⟨vs, ra, rv⟩
theorem kbd_app {f nP : Nat} {ks : List Str} {kn : List Nat} (hb : ∀ (s : Shared) (us ws : List Value), K.In s.heap → us.length = nP → ws.length = ks.length → BindsTo s (G.fd f) ⟨us, ks.zip ws⟩ ((G.pn f).zip (us ++ ws)))
    (hk : ∀ d, G.P.df f = some d → ∀ as zs : List D, as.length = nP → zs.length = ks.length → bindK d.ps as kn zs d.dfl = some (as ++ zs)) : KBd G K f nP ks kn := by
  intro s us ws kin e1 e2
  refine ⟨us ++ ws, hb s us ws kin e1 e2, fun W F R as zs as' vs us0 d hd ra rv rz rw_ h => ?_⟩
  rw [hk d hd as zs (by rw [ra.length, rv.length, e1]) (by rw [rz.length, rw_.length, e2])] at h
  cases h
  exact ⟨vs ++ us0, ra.append rz, rv.append rw_⟩
theorem meth_all {d : PD} {p : Nat → Prop} {k : Nat} (h : ∀ q ∈ d.meth, q.1.2 = k → p q.2) (c f : Nat) (e : d.P.meth c k = some f) : p f := h _ (lookup_mem (show d.meth.lookup (c, k) = some f from e)) rfl
end
/-! ### the end -/
/-- a law's promise: it answers True at every script -/
def spLaw (K : Fr) : Sp := fun vs H Q _ => ∃ (a : Addr) (ns : List Int), vs = [.ref a] ∧ ns.length ≤ 63 ∧ SqL K H a (ns.map V.int) ∧ ∀ H', Q (.bl true) H'
theorem law_of {d : PD} {T : Wd} {n f : Nat} {x : Df} {p : Str} (al : AllN (d.G T.K) T n) (hf : d.dfs[f]? = some x) (hp : (d.pns[f]?).getD [] = [p]) (h : ∀ ns : List Int, ns.length ≤ 63 → ∃ m, run d.P n f [.scr ns] [] = .ok (.bl true) m) :
    FnOk T.P T.w T.K T.mg T.base (L2.CX T.P T.w) (3 * n) (d.ad T.K f) (fdOf T.K (d.ad T.K f)) [p] (spLaw T.K) := by
  have F := al.fns f x hf
  have e : ((d.G T.K).pn f) = [p] := hp
  rw [e] at F
  refine F.imp fun vs H Q E ⟨a, ns, e1, hl, hS, hQ⟩ => ?_
  subst e1
  obtain ⟨m, hm⟩ := h ns hl
  refine ⟨by rw [e]; rfl, fun _ => none, H, [], [.scr ns], [], ⟨fun _ _ h => h, rfl, .nil, fun i a h => by simp at h, fun i a o h => by simp at h, fun a o h => by cases h⟩, .cons (.scr hS) .nil, ?_⟩
  rw [show run (d.G T.K).P n f [.scr ns] [] = .ok (.bl true) m from hm]
  intro F' R' H' v l s r
  cases r
  exact hQ H'
theorem xf_all {d : PD} {T : Wd} (h : ∀ q ∈ d.exf, ∀ X : Cx, X.prog = T.P → X.w = T.w → X.K = T.K → X.mg = T.mg → X.base = T.base → XfOk (d.G T.K) X q.1 q.2) (c : Nat) (fs : List Nat) (e : (d.G T.K).P.exf c = some fs) (X : Cx) (h1 : X.prog = T.P) (h2 : X.w = T.w) (h3 : X.K = T.K) (h4 : X.mg = T.mg) (h5 : X.base = T.base) : XfOk (d.G T.K) X c fs :=
  h (c, fs) (lookup_mem (show d.exf.lookup c = some fs from e)) X h1 h2 h3 h4 h5
theorem xfok_of {d : PD} {T : Wd} {c : Nat} {fs : List Nat} {fI : Addr} {fd : FuncData} {ps : List Str} (ho : oexB T.K (d.C T.K c) = true) (hf : fnB T.K (d.C T.K c) "__init__" fI = true) (F : FnOk T.P T.w T.K T.mg T.base (L2.CX T.P T.w) 1 fI fd ps (spXI T.K (fs.map (nmOf d.nms)))) (hb : Binds T.K fd ps [])
    (hn : ∀ f ∈ fs, PySem.W.findIn T.K (.ref (d.C T.K c)) (nmOf d.nms f) = some none) (h9 : fs.length ≤ 900) (X : Cx) (h1 : X.prog = T.P) (h2 : X.w = T.w) (h3 : X.K = T.K) (h4 : X.mg = T.mg) (h5 : X.base = T.base) : XfOk (d.G T.K) X c fs := by
  obtain ⟨prog, w, K, mg, base, A, N, s0, H0, env, outer, st, ex, fn, calm, pn, xe⟩ := X
  subst h1 h2 h3 h4 h5
  have m := fnB_ok hf
  exact ⟨fI, fd, ps, oexB_ok ho, m.at_, beq_iff_eq.mp m.fn, F, hb, hn, h9⟩
end Pv

set_option Elab.async false
set_option linter.all false
set_option autoImplicit false
namespace Pv
open PySem PySem.Spec PyProof.Rows L2
/-! PvSt: set(xs), sorted(s) of texts. -/
def strLe (a b : Str) : Prop := strLt b a = false
theorem strLe_anti {a b : Str} (h1 : strLe a b) (h2 : strLe b a) : a = b := by
  unfold strLe strLt at h1 h2
  rw [decide_eq_false_iff_not] at h1 h2
  have h3 := List.le_antisymm (List.not_lt.mp h2) (List.not_lt.mp h1)
  cases a; cases b
  simp only [Str.mk.injEq]
  exact (Array.toList_inj.mp h3).symm
theorem strLe_total {a b : Str} (h : strLt a b = true) : strLe a b := by
  unfold strLe strLt at *
  rw [decide_eq_true_eq] at h
  rw [decide_eq_false_iff_not]
  exact List.not_lt.mpr (List.le_of_lt h)
theorem strLe_trans {a b c : Str} (h1 : strLe a b) (h2 : strLe b c) : strLe a c := by
  unfold strLe strLt at *
  rw [decide_eq_false_iff_not] at *
  exact List.not_lt.mpr (List.le_trans (List.not_lt.mp h1) (List.not_lt.mp h2))
theorem insS_perm (x : Str) : ∀ l : List Str, (insS x l).Perm (x :: l)
  | [] => .refl _
  | y :: r => by
    unfold insS
    split
    · exact ((insS_perm x r).cons y).trans (.swap x y r)
    · exact .refl _
theorem insS_sorted (x : Str) : ∀ l : List Str, l.Pairwise strLe → (insS x l).Pairwise strLe
  | [], _ => List.pairwise_singleton _ _
  | y :: r, h => by
    obtain ⟨h1, h2⟩ := List.pairwise_cons.mp h
    unfold insS
    split
    · rename_i c
      refine List.pairwise_cons.mpr ⟨fun z hz => ?_, insS_sorted x r h2⟩
      rcases List.mem_cons.mp ((insS_perm x r).mem_iff.mp hz) with rfl | hz
      · exact strLe_total c
      · exact h1 z hz
    · rename_i c
      have hx : strLe x y := by unfold strLe; simpa using c
      refine List.pairwise_cons.mpr ⟨fun z hz => ?_, h⟩
      rcases List.mem_cons.mp hz with rfl | hz
      · exact hx
      · exact strLe_trans hx (h1 z hz)
theorem sortS_perm : ∀ l : List Str, (sortS l).Perm l
  | [] => .refl _
  | x :: r => (insS_perm x (sortS r)).trans ((sortS_perm r).cons x)
theorem sortS_sorted : ∀ l : List Str, (sortS l).Pairwise strLe
  | [] => .nil
  | x :: r => insS_sorted x _ (sortS_sorted r)
theorem rising_le : ∀ (p : Str) (l : List Str), risingS p l = true → (p :: l).Pairwise strLe
  | p, [], _ => List.pairwise_singleton _ _
  | p, x :: r, h => by
    unfold risingS at h
    rw [Bool.and_eq_true, Bool.not_eq_true'] at h
    obtain ⟨h1, h2⟩ := h
    have i := rising_le x r h2
    have hx : strLe p x := by
      unfold strLe strLt
      rw [lt_meets]
      exact h1
    refine List.pairwise_cons.mpr ⟨fun z hz => ?_, i⟩
    rcases List.mem_cons.mp hz with rfl | hz
    · exact hx
    · exact strLe_trans hx ((List.pairwise_cons.mp i).1 z hz)
theorem sortedS_le : ∀ l : List Str, sortedS l = true → l.Pairwise strLe
  | [], _ => .nil
  | x :: r, h => rising_le x r h
theorem sortS_eq {l ys : List Str} (h1 : sortedS ys = true) (h2 : ys.Perm l) : ys = sortS l :=
  List.Perm.eq_of_pairwise (fun a b _ _ => strLe_anti) (sortedS_le ys h1) (sortS_sorted l) (h2.trans (sortS_perm l).symm)
theorem mem_dedupS {k : Str} : ∀ {l : List Str}, k ∈ dedupS l ↔ k ∈ l
  | [] => Iff.rfl
  | x :: r => by
    unfold dedupS
    simp only [List.mem_cons, List.mem_filter, decide_eq_true_eq, mem_dedupS (l := r)]
    by_cases h : k = x <;> simp [h]
theorem nodup_dedupS : ∀ l : List Str, (dedupS l).Nodup
  | [] => .nil
  | x :: r => by
    unfold dedupS
    refine List.nodup_cons.mpr ⟨fun h => ?_, (nodup_dedupS r).filter _⟩
    simpa using (List.mem_filter.mp h).2
section
variable {G : Gd} {X : Cx} {Wx : WX} {Z F : Hp} {R : List Addr} {m : Mu} {H : Hp}
theorem set_of {d : D} {v : V} {xs : List D} (h : SR (G.W X) Z F R m H) (r : Rel (G.W X) F R d v) (e : dr m d = .set xs) : ∃ (a : Addr) (ys : List Str) (S : Str → Bool) (n : Nat), v = .ref a ∧ xs = ys.map .str ∧ H a = some (SetSO X.w a S n) ∧ ys.Nodup ∧ ∀ k, S k = true ↔ k ∈ ys := by
  rcases r.dr h with ⟨_, q⟩ | ⟨j, a, o, u, rfl, ev, _, _, q, hu, ro⟩ | ⟨j, rfl, q⟩
  · rw [q] at e; subst e
    cases r with
    | sets ha hn hm => exact ⟨_, _, _, _, rfl, rfl, h.ex _ _ ha, hn, hm⟩
  · rw [q] at e; subst e; cases ro
  · rw [q] at e; cases e
theorem strsOf_map : ∀ (ys : List Str), strsOf (ys.map D.str) = some ys
  | [] => rfl
  | y :: ys => by
    show (strsOf (ys.map D.str)).map (y :: ·) = _
    rw [strsOf_map ys]
    rfl
theorem b_set (hc : X.calm = true) {k : Bool} : CallR X (.type "set") (rBi G X Wx .set k) := by
  intro p s σ H vs us Q I rus ⟨Z, F, R, m, ds, σ', h1, rs, q⟩
  replace q : EPo (G.W X) Z (Rel (G.W X)) F R σ' Q Wx (setD m ds) := q
  match ds, rs, q with
  | [a], .cons ra .nil, q =>
    unfold setD at q
    simp only at q
    split at q
    · rename_i ys e
      obtain ⟨xs, e1, e2⟩ := Option.bind_eq_some_iff.mp e
      obtain ⟨b, ws, rfl, hw, rw_⟩ := lq_of h1 ra e1
      obtain ⟨rfl, rfl⟩ := strs_rel rw_ e2
      obtain ⟨hz, q⟩ := when_of q
      refine cr_setS hc p s σ H _ us Q I rus ⟨b, ys, rfl, hw, of_decide_eq_true hz, fun p n hn hp => ?_⟩
      obtain ⟨s2, l⟩ := h1.new (o := SetSO X.w p (mem1 ys) n) hp
      refine q _ _ _ _ l s2 (.sets upd_same (nodup_dedupS ys) fun k => ?_)
      unfold mem1
      rw [decide_eq_true_eq, mem_dedupS]
    · exact q.elim
theorem b_sorted (hc : X.calm = true) {k : Bool} : CallR X (.builtin "sorted") (rBi G X Wx .sorted k) := by
  intro p s σ H vs us Q I rus ⟨Z, F, R, m, ds, σ', h1, rs, q⟩
  replace q : EPo (G.W X) Z (Rel (G.W X)) F R σ' Q Wx (sortedD m ds) := q
  match ds, rs, q with
  | [a], .cons ra .nil, q =>
    unfold sortedD at q
    simp only at q
    split at q
    · rename_i xs e
      obtain ⟨b, ys, S, n, rfl, rfl, hb, hn, hm⟩ := set_of h1 ra e
      rw [strsOf_map] at q
      obtain ⟨hz, q⟩ := when_of q
      refine cr_sortSet hc p s σ H _ us Q I rus ⟨b, S, n, rfl, hb, ⟨ys, hn, of_decide_eq_true hz, hm⟩, fun zs p z1 z2 z3 hp => ?_⟩
      have e2 : zs = sortS ys := sortS_eq z1 ((List.perm_ext_iff_of_nodup z2 hn).mpr fun k => (z3 k).trans (hm k))
      subst e2
      exact EPo.newL q h1 (strs_rels _) p hp
    · rename_i xs e
      split at q
      · rename_i ys e2
        obtain ⟨hz, q⟩ := when_of q
        obtain ⟨b, ws, rfl, hw, rw_⟩ := ra.lst_of h1 e
        obtain ⟨rfl, rfl⟩ := strs_rel rw_ e2
        refine cr_sortedS p s σ H _ us Q I rus ⟨b, ys, rfl, SqL.of hw, of_decide_eq_true hz, fun zs p z1 z2 hp => ?_⟩
        have e3 : zs = sortS ys := sortS_eq z2 z1
        subst e3
        exact EPo.newL q h1 (strs_rels _) p hp
      · exact q.elim
    · exact q.elim
end
end Pv

set_option Elab.async false
set_option linter.all false
set_option autoImplicit false
set_option maxRecDepth 100000
set_option maxHeartbeats 1000000
/-! PvHd: the head's facts as one test; the forms of the printed assembly; the law's end. -/
namespace Pv
open PySem PySem.Spec PyProof.Rows L2 He
structure Fx where
  fa : List He.Fa
  tl : List (Str × List Dv)
  vl : List (Str × List (Str × Dv))
  sl : List (Nat × Str × Nat)
  xl : List (Nat × At × List Nat)
def Fx.ok (x : Fx) (d : PD) (K : Fr) : Bool := (x.fa.all fun f => f.ok K) && (d.says K && ((x.tl.all fun t => tupB K t.1 t.2) && ((x.vl.all fun t => valsB K (ga K t.1) t.2) && ((x.sl.all fun t => stB K (d.C K t.1) t.2.1 (d.ad K t.2.2)) &&
  x.xl.all fun t => oexB K (d.C K t.1) && (fnB K (d.C K t.1) "__init__" (atOf K t.2.1) && t.2.2.all fun f => eqO (PySem.W.findIn K (.ref (d.C K t.1)) (nmOf d.nms f)) (some none))))))
section
variable {x : Fx} {d : PD} {K : Fr}
theorem all_at {α : Type} {p : α → Bool} {l : List α} (h : l.all p = true) (i : Nat) {a : α} (e : l[i]? = some a) : p a = true := List.all_eq_true.mp h a (List.mem_of_getElem? e)
theorem fx_parts (c : x.ok d K = true) : (x.fa.all fun f => f.ok K) = true ∧ d.says K = true ∧ (x.tl.all fun t => tupB K t.1 t.2) = true ∧ (x.vl.all fun t => valsB K (ga K t.1) t.2) = true ∧ (x.sl.all fun t => stB K (d.C K t.1) t.2.1 (d.ad K t.2.2)) = true ∧
    (x.xl.all fun t => oexB K (d.C K t.1) && (fnB K (d.C K t.1) "__init__" (atOf K t.2.1) && t.2.2.all fun f => eqO (PySem.W.findIn K (.ref (d.C K t.1)) (nmOf d.nms f)) (some none))) = true := by
  unfold Fx.ok at c
  simp only [Bool.and_eq_true] at c
  exact c
theorem fx_fact (c : x.ok d K = true) (i : Nat) {f : He.Fa} (e : x.fa[i]? = some f) : f.ok K = true := all_at (fx_parts c).1 i e
theorem fx_says (c : x.ok d K = true) : d.says K = true := (fx_parts c).2.1
theorem fx_tup (c : x.ok d K = true) (i : Nat) {a : Str} {vs : List Dv} (e : x.tl[i]? = some (a, vs)) : tupB K a vs = true := by
  have h := all_at (fx_parts c).2.2.1 i e
  exact h
theorem fx_val (c : x.ok d K = true) (i : Nat) {a : Str} {vs : List (Str × Dv)} (e : x.vl[i]? = some (a, vs)) : valsB K (ga K a) vs = true := by
  have h := all_at (fx_parts c).2.2.2.1 i e
  exact h
theorem fx_sta (c : x.ok d K = true) (i : Nat) {a : Nat} {m : Str} {f : Nat} (e : x.sl[i]? = some (a, m, f)) : stB K (d.C K a) m (d.ad K f) = true := by
  have h := all_at (fx_parts c).2.2.2.2.1 i e
  exact h
theorem fx_exc (c : x.ok d K = true) (i : Nat) {a : Nat} {p : At} {fs : List Nat} (e : x.xl[i]? = some (a, p, fs)) : oexB K (d.C K a) = true ∧ fnB K (d.C K a) "__init__" (atOf K p) = true ∧ ∀ f ∈ fs, PySem.W.findIn K (.ref (d.C K a)) (nmOf d.nms f) = some none := by
  have h := all_at (fx_parts c).2.2.2.2.2 i e
  simp only [Bool.and_eq_true] at h
  exact ⟨h.1, h.2.1, fun f hf => eqO_ok (List.all_eq_true.mp h.2.2 f hf)⟩
end
theorem mem_nil {α : Type} {p : α → Prop} : ∀ q ∈ ([] : List α), p q := fun _ h => nomatch h
theorem mem_cons {α : Type} {p : α → Prop} {a : α} {l : List α} (h : p a) (t : ∀ q ∈ l, p q) : ∀ q ∈ a :: l, p q := fun q hq => by
  rcases List.mem_cons.mp hq with rfl | hq
  · exact h
  · exact t q hq
section
variable {K : PySem.W.Frag} {x qual : Str} {params : Arguments} {body : List Stmt} {scope : Scope} {dvs : List V} {kws : List (Str × V)} {f : Addr} {fd : FuncData} {ps : List Str}
/-- keywords in the parameters' order -/
theorem kbApp (F : FunD K x qual params body scope [] kws f fd) (s : Shared) (us ws : List Value) {ks : List Str}
    (h : ∀ (kV doc pm : Value) (an : Option Addr) (cdv ct : Value), bindArgs (PySem.W.fnOf x qual params body scope .none kV doc pm an cdv ct) ⟨us, ks.zip ws⟩ = pure (ps.zip (us ++ ws))) : BindsTo s fd ⟨us, ks.zip ws⟩ (ps.zip (us ++ ws)) := by
  obtain ⟨oc, od, dV, kV, doc, pm, an, cdv, ct, osl, rfl, lk, hcd, hD, hK⟩ := F.ex
  rcases hD with ⟨_, rfl⟩ | ⟨e, _⟩
  · exact .of_eq (h kV doc pm an cdv ct)
  · exact absurd rfl e
end
section
variable {K : PySem.W.Frag} {x qual : Str} {params : Arguments} {body : List Stmt} {scope : Scope} {dvs : List V} {f : Addr} {fd : FuncData} {ps : List Str}
/-- all parameters written, though there are defaults -/
theorem bindsD (F : FunD K x qual params body scope dvs [] f fd) (hd : dvs ≠ [])
    (h : ∀ (T : Addr) (kV doc pm : Value) (an : Option Addr) (cdv ct : Value) (us its : List Value), us.length = ps.length → its.length = dvs.length →
      ∃ k, bindArgs (PySem.W.fnOf x qual params body scope (.ref T) kV doc pm an cdv ct) ⟨us, []⟩ = seqItems? (.ref T) >>= k ∧ k (some its.toArray) = pure (ps.zip us)) : Binds K fd ps [] := by
  obtain ⟨ds, r, b⟩ := FunD.binds1 (ps := ps) F ps.length dvs.length hd (by omega) fun T kV doc pm an cdv ct us its h1 h2 => by
    obtain ⟨k, e1, e2⟩ := h T kV doc pm an cdv ct us its h1 h2
    refine ⟨k, e1, ?_⟩
    rw [e2, ← h2, List.drop_length, List.append_nil]
  rw [List.drop_length] at r
  cases r
  exact b
end
/-- a law: F gives the written part, the function object, the promise over every base -/
theorem walk_ofP {l : PySem.W.OpenLaw} {n k : Nat} {q : Program} {loose : List Str} {XP : (Str → Option Value) → Heap → Prop} {YP : World → Heap → Prop} {d : DefRec} {CX : World → CXT} {x : Str}
    (hn : l.most = some n) (hn2 : n ≤ sizeLine) (hdf : d.params.defaults = []) (hr : Room k callerA)
    (F : ∀ (w : World) (mg : Str → Option Value) (fa : Addr) (h : Heap), YP w h → h.Ns mainGlobals mg → mg d.name = some (.ref fa) →
      ∃ (K : PySem.W.Frag) (fd : FuncData) (sp : Sp), K.In h ∧ (∀ (s : Shared) (u : Value), BindsTo s fd ⟨[u], []⟩ [(x, u)]) ∧
        (∀ (H : Hp) (a : Addr) (ns : List Int), ns.length ≤ n → SqL K H a (ns.map V.int) → sp [.ref a] H (fun v _ => v = .bl true) fun _ _ _ => False) ∧
        ∀ base : Heap, K.In base → base.Ns mainGlobals mg → FnOk l.prog w K mg base (CX w) k fa fd [x] sp)
    (hCX : ∀ (w : World) (H : Hp) (s : Shared) (e : Value) (s' : Shared), CX w [] H s (fun _ _ _ => False) e s' → False) :
    PySem.W.WalkO q loose XP YP l.row.toRowW d [] (fun f vs => PySem.call f vs) := by
  refine Att.attach_call hn hdf fun w s₀ s₁ mg mb fa o pm cd doc a vs ns G Y ho hd hcd hmg hobj hints hlen hg => ?_
  obtain ⟨K, fd, sp, KX, hb, hsp, hF⟩ := F w mg fa _ Y G.T.g hmg
  exact law_call KX G.T.g G.T.b G.T.builtins G.T.nolimit hg hobj hints (Nat.le_trans hlen hn2) hr hF hb (fun H hO hS => hsp H a ns hlen hS) fun H e s' => hCX w H s₁ e s'
end Pv

set_option linter.all false
set_option autoImplicit false
/-! PvSim: the evaluator's steps as rewriting rules, for the plain laws. -/
namespace Pv
open PySem
section
variable (m : Mu)
theorem dr_int (i : Int) : dr m (.int i) = .int i := rfl
theorem dr_str (x : Str) : dr m (.str x) = .str x := rfl
theorem dr_bl (b : Bool) : dr m (.bl b) = .bl b := rfl
theorem dr_non : dr m .non = .non := rfl
theorem dr_lst (xs : List D) : dr m (.lst xs) = .lst xs := rfl
theorem dr_tup (xs : List D) : dr m (.tup xs) = .tup xs := rfl
theorem dr_set (xs : List D) : dr m (.set xs) = .set xs := rfl
theorem dr_ins (c : Nat) (fs : List (Nat × D)) : dr m (.ins c fs) = .ins c fs := rfl
theorem dr_loc {i : Nat} {o : D} (h : m[i]? = some (some o)) : dr m (.loc i) = o := by
  show (match m[i]? with
    | some (some o) => o
    | _ => .loc i) = o
  rw [h]
theorem dr_loc0 (o : D) (t : Mu) : dr (some o :: t) (.loc 0) = o := rfl
theorem add_int (i j : Int) : op2 .add m (.int i) (.int j) = .ok (.int (i + j)) m := rfl
theorem sub_int (i j : Int) : op2 .sub m (.int i) (.int j) = .ok (.int (i - j)) m := rfl
theorem mul_int {i j : Int} (h : mulOk i j = true) : op2 .mul m (.int i) (.int j) = .ok (.int (i * j)) m := by
  show Res.when (mulOk i j) _ = _
  rw [h]; rfl
theorem mod_int {i j : Int} (h : 0 < j) : op2 .mod m (.int i) (.int j) = .ok (.int (i % j)) m := by
  show Res.when (decide (0 < j)) _ = _
  rw [decide_eq_true h]; rfl
theorem fdiv_int {i j : Int} (h : 0 < j) (h2 : j < 2 ^ 4096) : op2 .fdiv m (.int i) (.int j) = .ok (.int (i / j)) m := by
  show Res.when (decide (0 < j) && decide (j < 2 ^ 4096)) _ = _
  rw [decide_eq_true h, decide_eq_true h2]; rfl
theorem pow_int {i j : Int} (h : 0 ≤ j) (h2 : j ≤ 1000000) (h3 : -(2 ^ 64) < i) (h4 : i < 2 ^ 64) : op2 .pow m (.int i) (.int j) = .ok (.int (i ^ j.toNat)) m := by
  show Res.when (decide (0 ≤ j) && (decide (j ≤ 1000000) && (decide (-(2 ^ 64) < i) && decide (i < 2 ^ 64)))) _ = _
  rw [decide_eq_true h, decide_eq_true h2, decide_eq_true h3, decide_eq_true h4]; rfl
theorem add_lst {xs ys : List D} (h : xs.length + ys.length ≤ 1000000) : op2 .add m (.lst xs) (.lst ys) = .ok (.lst (xs ++ ys)) m := by
  show Res.when (big (xs.length + ys.length)) _ = _
  unfold big
  rw [decide_eq_true h]; rfl
theorem tru_bl (b : Bool) : tru m (.bl b) = some b := rfl
theorem tru_int (i : Int) : tru m (.int i) = some (i != 0) := rfl
theorem truI_bl (P : Pr) (call : Cal) (b : Bool) : truI P call (.bl b) m = .ok b m := rfl
theorem truI_int (P : Pr) (call : Cal) (i : Int) : truI P call (.int i) m = .ok (i != 0) m := rfl
theorem cmp_lt (P : Pr) (call : Cal) (i j : Int) : cmpD P call .lt (.int i) (.int j) m = .ok (.bl (decide (i < j))) m := rfl
theorem cmp_le (P : Pr) (call : Cal) (i j : Int) : cmpD P call .le (.int i) (.int j) m = .ok (.bl (decide (i ≤ j))) m := rfl
theorem cmp_gt (P : Pr) (call : Cal) (i j : Int) : cmpD P call .gt (.int i) (.int j) m = .ok (.bl (decide (j < i))) m := rfl
theorem cmp_ge (P : Pr) (call : Cal) (i j : Int) : cmpD P call .ge (.int i) (.int j) m = .ok (.bl (decide (j ≤ i))) m := rfl
theorem cmp_eq_int (P : Pr) (call : Cal) (i j : Int) : cmpD P call .eq (.int i) (.int j) m = .ok (.bl (PyData.eqv (.int i) (.int j))) m := rfl
theorem cmp_eq_str (P : Pr) (call : Cal) (x y : Str) : cmpD P call .eq (.str x) (.str y) m = .ok (.bl (PyData.eqv (.str x) (.str y))) m := rfl
theorem bi_int (i : Int) (k : Bool) : biD .int k m [.int i] = .ok (.int i) m := rfl
theorem bi_int_b (b : Bool) (k : Bool) : biD .int k m [.bl b] = .ok (.int (b2i b)) m := rfl
theorem bi_abs (i : Int) (k : Bool) : biD .abs k m [.int i] = .ok (.int (if i < 0 then -i else i)) m := rfl
theorem bi_len_lst (xs : List D) (k : Bool) : biD .len k m [.lst xs] = .ok (.int xs.length) m := rfl
theorem bi_len_tup (xs : List D) (k : Bool) : biD .len k m [.tup xs] = .ok (.int xs.length) m := rfl
theorem bi_max (i j : Int) (k : Bool) : biD .max k m [.int i, .int j] = .ok (.int (if j > i then j else i)) m := rfl
end
section
variable {P : Pr} {call : Cal} {t : S} {ts : List S} {s s' : Sl} {m m' : Mu}
theorem ss_nil' : evSs P call [] s m = .ok (.nxt s) m := by unfold evSs; rfl
theorem ss_next (h : evS P call t s m = .ok (.nxt s') m') : evSs P call (t :: ts) s m = evSs P call ts s' m' := by
  conv => lhs; unfold evSs
  rw [h]
  rfl
theorem ss_ret' {v : D} (h : evS P call t s m = .ok (.ret v) m') : evSs P call (t :: ts) s m = .ok (.ret v) m' := by
  conv => lhs; unfold evSs
  rw [h]
  rfl
theorem asg_v {i : Nat} {e : E} {d : D} (h : evE P call e s m = .ok d m') : evS P call (.asg (.t (.v i)) e) s m = .ok (.nxt (s.set i (some d))) m' := by
  unfold evS
  rw [h]
  rfl
theorem ret_e {e : E} {d : D} (h : evE P call e s m = .ok d m') : evS P call (.ret e) s m = .ok (.ret d) m' := by
  unfold evS
  rw [h]
  rfl
theorem ite_t {c : E} {a b : List S} {d : D} (h : evE P call c s m = .ok d m') (h2 : truI P call d m' = .ok true m') : evS P call (.ite c a b) s m = evSs P call a s m' := by
  conv => lhs; unfold evS
  rw [h]
  simp only [Res.to_ok, h2, if_true]
theorem ite_f {c : E} {a b : List S} {d : D} (h : evE P call c s m = .ok d m') (h2 : truI P call d m' = .ok false m') : evS P call (.ite c a b) s m = evSs P call b s m' := by
  conv => lhs; unfold evS
  rw [h]
  simp only [Res.to_ok, h2, Bool.false_eq_true, if_false]
theorem mulOk_l {i j : Int} (h1 : -(2 ^ 64) < i) (h2 : i < 2 ^ 64) : mulOk i j = true := by
  unfold mulOk
  rw [decide_eq_true h1, decide_eq_true h2]; rfl
theorem mulOk_r {i j : Int} (h1 : -(2 ^ 64) < j) (h2 : j < 2 ^ 64) : mulOk i j = true := by
  unfold mulOk
  rw [decide_eq_true h1, decide_eq_true h2]; simp
end
end Pv

set_option linter.all false
set_option autoImplicit false
set_option maxRecDepth 100000
/-! PvTr: what is wanted behind a piece of the evaluator, pushed through it from the end. -/
namespace Pv
open PySem
abbrev Px := Nat → List (Nat × D) → Mu → Prop
abbrev Ps := Nat → List (Nat × D) → Sl → Mu → Prop
def Tr {α : Type} (r : Res α) (Q : α → Mu → Prop) (X : Px) : Prop := match r with
  | .ok a m => Q a m
  | .exc c fs m => X c fs m
  | .stuck => False
def Ts (r : RS) (N : Sl → Mu → Prop) (R : D → Mu → Prop) (B C : Sl → Mu → Prop) (X : Ps) : Prop := match r with
  | .ok (.nxt s) m => N s m
  | .ok (.ret v) m => R v m
  | .ok (.brk s) m => B s m
  | .ok (.cnt s) m => C s m
  | .exc c fs s m => X c fs s m
  | .stuck => False
theorem tr_bind {α β : Type} {r : Res α} {k : α → Mu → Res β} {Q : β → Mu → Prop} {X : Px} (h : Tr r (fun a m => Tr (k a m) Q X) X) : Tr (r.bind k) Q X := by
  cases r <;> exact h
theorem tr_mono {α : Type} {r : Res α} {Q Q' : α → Mu → Prop} {X X' : Px} (h : Tr r Q X) (hq : ∀ a m, Q a m → Q' a m) (hx : ∀ c fs m, X c fs m → X' c fs m) : Tr r Q' X' := by
  cases r with
  | ok a m => exact hq _ _ h
  | exc c fs m => exact hx _ _ _ h
  | stuck => exact h
theorem ts_to {α : Type} {r : Res α} {s : Sl} {k : α → Mu → RS} {N : Sl → Mu → Prop} {R : D → Mu → Prop} {B C : Sl → Mu → Prop} {X : Ps} (h : Tr r (fun a m => Ts (k a m) N R B C X) (fun c fs m => X c fs s m)) : Ts (r.to s k) N R B C X := by
  cases r <;> exact h
theorem tr_ofOpt {α : Type} {o : Option α} {a : α} {m : Mu} {Q : α → Mu → Prop} {X : Px} (h : o = some a) (q : Q a m) : Tr (Res.ofOpt m o) Q X := by
  subst h; exact q
theorem tr_when {α : Type} {c : Bool} {r : Res α} {Q : α → Mu → Prop} {X : Px} (h : c = true) (q : Tr r Q X) : Tr (Res.when c r) Q X := by
  subst h; exact q
theorem tr_ok {α : Type} {a : α} {m : Mu} {Q : α → Mu → Prop} {X : Px} (q : Q a m) : Tr (Res.ok a m) Q X := q
theorem tr_nox {α : Type} {r : Res α} {Q : α → Mu → Prop} {X : Px} (h : Tr r Q (fun _ _ _ => False)) : Tr r.nox Q X := by
  cases r with
  | ok a m => exact h
  | exc c fs m => exact h.elim
  | stuck => exact h
theorem tr_eq {α : Type} {r : Res α} {a : α} {m : Mu} {Q : α → Mu → Prop} {X : Px} (h : r = .ok a m) (q : Q a m) : Tr r Q X := by
  subst h; exact q
/-- what is known -/
theorem tr_get {α : Type} {r : Res α} {Q : α → Mu → Prop} (h : Tr r Q (fun _ _ _ => False)) : ∃ a m, r = .ok a m ∧ Q a m := by
  cases r with
  | ok a m => exact ⟨a, m, rfl, h⟩
  | exc c fs m => exact h.elim
  | stuck => exact h.elim
/-- a choice -/
@[irreducible] def Wif (b : Bool) (T F : Prop) : Prop := if b then T else F
section
variable {T F : Prop} {b c : Bool}
theorem wif_t (h : T) : Wif true T F := by unfold Wif; exact h
theorem wif_f (h : F) : Wif false T F := by unfold Wif; exact h
theorem wif_b (h : b = true → T) (h2 : b = false → F) : Wif b T F := by
  unfold Wif
  cases b
  · exact h2 rfl
  · exact h rfl
theorem wif_not (h : Wif b F T) : Wif (!b) T F := by
  unfold Wif at h ⊢
  cases b <;> exact h
theorem wif_dec {p : Prop} [Decidable p] (h : p → T) (h2 : ¬ p → F) : Wif (decide p) T F := wif_b (fun e => h (of_decide_eq_true e)) fun e => h2 (of_decide_eq_false e)
theorem wif_true_iff (h : Wif true T F) : T := by unfold Wif at h; exact h
theorem wif_false_iff (h : Wif false T F) : F := by unfold Wif at h; exact h
theorem wif_eqt (e : b = true) (h : T) : Wif b T F := by subst e; exact wif_t h
theorem wif_eqf (e : b = false) (h : F) : Wif b T F := by subst e; exact wif_f h
end
section
variable (P : Pr) (call : Cal)
@[irreducible] def WE (e : E) (s : Sl) (m : Mu) (Q : D → Mu → Prop) (X : Px) : Prop := Tr (evE P call e s m) Q X
@[irreducible] def WL (es : List E) (s : Sl) (m : Mu) (Q : List D → Mu → Prop) (X : Px) : Prop := Tr (evL P call es s m) Q X
@[irreducible] def WI (it : It) (s : Sl) (m : Mu) (Q : List D → Mu → Prop) (X : Px) : Prop := Tr (evI P call it s m) Q X
@[irreducible] def WO (o : Option E) (s : Sl) (m : Mu) (Q : Option Int → Mu → Prop) (X : Px) : Prop := Tr (evO P call o s m) Q X
@[irreducible] def WT (d : D) (m : Mu) (T F : Mu → Prop) (X : Px) : Prop := Tr (truI P call d m) (fun b m => Wif b (T m) (F m)) X
@[irreducible] def WTs (es : List E) (s : Sl) (m : Mu) (T F : Mu → Prop) (X : Px) : Prop := Tr (evT P call es s m) (fun b m => Wif b (T m) (F m)) X
@[irreducible] def WCmp (o : Cm) (x y : D) (m : Mu) (Q : D → Mu → Prop) (X : Px) : Prop := Tr (cmpD P call o x y m) Q X
@[irreducible] def WF (f : Nat) (as : List D) (m : Mu) (Q : D → Mu → Prop) (X : Px) : Prop := Tr (call f as m) Q X
@[irreducible] def WFk (f : Nat) (as : List D) (ks : List Nat) (us : List D) (m : Mu) (Q : D → Mu → Prop) (X : Px) : Prop := Tr (callK P call f as ks us m) Q X
@[irreducible] def WNew (c : Nat) (as : List D) (ks : List Nat) (us : List D) (m : Mu) (Q : D → Mu → Prop) (X : Px) : Prop := Tr (newD P (fun f as m => callK P call f as ks us m) c as m) Q X
@[irreducible] def WFld (f : Nat) (d : D) (m : Mu) (Q : D → Mu → Prop) (X : Px) : Prop := Tr (fldD P call f d m) Q X
@[irreducible] def WStr (x : D) (m : Mu) (Q : D → Mu → Prop) (X : Px) : Prop := Tr (match dr m x with
    | .ins c _ => (match P.strm c with
      | some g => (call g [x] m).bind fun r m => (match r with
        | .str z => .ok (.str z) m
        | _ => .stuck)
      | none => .stuck)
    | _ => biD .str false m [x]) Q X
@[irreducible] def WS (t : S) (s : Sl) (m : Mu) (N : Sl → Mu → Prop) (R : D → Mu → Prop) (B C : Sl → Mu → Prop) (X : Ps) : Prop := Ts (evS P call t s m) N R B C X
@[irreducible] def WSs (t : List S) (s : Sl) (m : Mu) (N : Sl → Mu → Prop) (R : D → Mu → Prop) (B C : Sl → Mu → Prop) (X : Ps) : Prop := Ts (evSs P call t s m) N R B C X
@[irreducible] def WH (t : List Hd) (c : Nat) (fs : List (Nat × D)) (s : Sl) (m : Mu) (N : Sl → Mu → Prop) (R : D → Mu → Prop) (B C : Sl → Mu → Prop) (X : Ps) : Prop := Ts (evH P call t c fs s m) N R B C X
end
@[irreducible] def WO2 (o : Op2) (m : Mu) (x y : D) (Q : D → Mu → Prop) (X : Px) : Prop := Tr (op2 o m x y) Q X
@[irreducible] def WBi (f : Bi) (k : Bool) (m : Mu) (vs : List D) (Q : D → Mu → Prop) (X : Px) : Prop := Tr (biD f k m vs) Q X
@[irreducible] def WBm (f : Bm) (x : D) (m : Mu) (vs : List D) (Q : D → Mu → Prop) (X : Px) : Prop := Tr (bmD x f m vs) Q X
@[irreducible] def WIx (x y : D) (m : Mu) (Q : D → Mu → Prop) (X : Px) : Prop := Tr (match dr m x, y with
    | .tup xs, .int j => Res.ofOpt m (ixD xs j)
    | .lst xs, .int j => .ofOpt m (ixD xs j)
    | .scr ns, .int j => .ofOpt m ((ixAt ns.length j).bind fun k => ns[k]?.map .int)
    | _, _ => .stuck) Q X
@[irreducible] def WSlc (x : D) (l h : Option Int) (m : Mu) (Q : D → Mu → Prop) (X : Px) : Prop := Tr (match dr m x with
    | .tup xs => Res.ok (.tup (slice xs l h)) m
    | .lst xs => .ok (.lst (slice xs l h)) m
    | .scr ns => .ok (.lst ((slice ns l h).map .int)) m
    | _ => .stuck) Q X
@[irreducible] def WAnd (x : D) (m : Mu) (T : Prop) (Q : D → Mu → Prop) : Prop := match tru m x with
    | some true => T
    | some false => Q x m
    | none => False
@[irreducible] def WOr (x : D) (m : Mu) (F : Prop) (Q : D → Mu → Prop) : Prop := match tru m x with
    | some true => Q x m
    | some false => F
    | none => False
@[irreducible] def IsI (x : D) (k : Int → Prop) : Prop := match x with
    | .int i => k i
    | _ => False
@[irreducible] def IsS (x : D) (k : Str → Prop) : Prop := match x with
    | .str i => k i
    | _ => False
@[irreducible] def IsB (x : D) (k : Bool → Prop) : Prop := match x with
    | .bl i => k i
    | _ => False
@[irreducible] def WIsi (P : Pr) (x : D) (ts : List TyR) (m : Mu) (Q : D → Mu → Prop) : Prop := ∃ b, isAny P (dr m x) ts = some b ∧ Q (.bl b) m
@[irreducible] def WMeth (P : Pr) (x : D) (n : Nat) (m : Mu) (K : Nat → Prop) : Prop := ∃ c fs f, dr m x = .ins c fs ∧ fs.lookup n = none ∧ P.meth c n = some f ∧ P.cls c = true ∧ K f
@[irreducible] def WItm (x : D) (K : List D → Prop) : Prop := ∃ xs, itemsD x = some xs ∧ K xs
@[irreducible] def WRng (vs : List D) (K : List D → Prop) : Prop := ∃ xs, rngD vs = some xs ∧ K xs
@[irreducible] def WRev (x : D) (m : Mu) (Q : D → Mu → Prop) : Prop := ∃ xs, dr m x = .lst xs ∧ Q (.lst xs.reverse) m
@[irreducible] def WAsgT (ts : List Tg) (d : D) (s : Sl) (m : Mu) (N : Sl → Mu → Prop) : Prop := ∃ s', asgT m (.tup ts) d s = some s' ∧ N s' m
@[irreducible] def WAsgF (P : Pr) (x : D) (f : Nat) (d : D) (s : Sl) (m : Mu) (N : Sl → Mu → Prop) : Prop := ∃ i c fs, x = .loc i ∧ m[i]? = some (some (.ins c fs)) ∧ (P.cls c && (P.fld c f && decide (fs.length < 1000))) = true ∧ N s (setM m i (.ins c (setF f d fs)))
@[irreducible] def WAsgS (x y d : D) (s : Sl) (m : Mu) (N : Sl → Mu → Prop) : Prop := ∃ a j xs ys, x = .loc a ∧ y = .int j ∧ m[a]? = some (some (.lst xs)) ∧ setIx xs j d = some ys ∧ N s (setM m a (.lst ys))
@[irreducible] def WPar (ts : List Nat) (vs : List D) (s : Sl) (m : Mu) (N : Sl → Mu → Prop) : Prop := ∃ s', parS ts vs s = some s' ∧ N s' m
@[irreducible] def WRaise (P : Pr) (c : Nat) (vs : List D) (s : Sl) (m : Mu) (X : Ps) : Prop := ∃ fs, excF P c vs = some fs ∧ X c fs s m
@[irreducible] def WBmT (f : Bm) (x : D) (m : Mu) (T : Prop) : Prop := bmTy f (dr m x) = true ∧ T
theorem isI {i : Int} {k : Int → Prop} (h : k i) : IsI (.int i) k := by unfold IsI; exact h
theorem isS {i : Str} {k : Str → Prop} (h : k i) : IsS (.str i) k := by unfold IsS; exact h
theorem isB {i : Bool} {k : Bool → Prop} (h : k i) : IsB (.bl i) k := by unfold IsB; exact h
/-! ### expressions -/
section
variable {P : Pr} {call : Cal} {s : Sl} {m : Mu} {Q : D → Mu → Prop} {X : Px}
theorem we_non (q : Q .non m) : WE P call .non s m Q X := by unfold WE evE; exact q
theorem we_bl {b : Bool} (q : Q (.bl b) m) : WE P call (.bl b) s m Q X := by unfold WE evE; exact q
theorem we_int {i : Int} (q : Q (.int i) m) : WE P call (.int i) s m Q X := by unfold WE evE; exact q
theorem we_str {x : Str} (q : Q (.str x) m) : WE P call (.str x) s m Q X := by unfold WE evE; exact q
theorem we_var {i : Nat} {d : D} (h : s[i]? = some (some d)) (q : Q d m) : WE P call (.var i) s m Q X := by
  unfold WE evE; rw [h]; exact q
theorem we_glo {k : Nat} {d : D} (h : P.glob k = some d) (q : Q d m) : WE P call (.glo k) s m Q X := by
  unfold WE evE; exact tr_ofOpt h q
theorem we_bin {o : Op2} {a b : E} (q : WE P call a s m (fun x m => WE P call b s m (fun y m => WO2 o m x y Q X) X) X) : WE P call (.bin o a b) s m Q X := by
  unfold WE at q ⊢
  unfold WO2 at q
  unfold evE
  refine tr_bind (tr_mono q (fun x m q => ?_) fun _ _ _ h => h)
  exact tr_bind q
theorem we_neg {a : E} (q : WE P call a s m (fun x m => IsI x fun i => Q (.int (-i)) m) X) : WE P call (.neg a) s m Q X := by
  unfold WE at q ⊢
  unfold evE
  refine tr_bind (tr_mono q (fun x m q => ?_) fun _ _ _ h => h)
  unfold IsI at q
  cases x <;> first | exact q | exact q.elim
theorem we_not {a : E} (q : WE P call a s m (fun x m => WT P call x m (fun m => Q (.bl false) m) (fun m => Q (.bl true) m) X) X) : WE P call (.not a) s m Q X := by
  unfold WE at q ⊢
  unfold WT at q
  unfold evE
  refine tr_bind (tr_mono q (fun x m q => ?_) fun _ _ _ h => h)
  refine tr_bind (tr_mono q (fun b m q => ?_) fun _ _ _ h => h)
  unfold Wif at q
  cases b <;> exact q
theorem we_cmp {o : Cm} {a b : E} (q : WE P call a s m (fun x m => WE P call b s m (fun y m => WCmp P call o x y m Q X) X) X) : WE P call (.cmp a o b) s m Q X := by
  unfold WE at q ⊢
  unfold WCmp at q
  unfold evE
  refine tr_bind (tr_mono q (fun x m q => ?_) fun _ _ _ h => h)
  exact tr_bind q
theorem we_cmp2 {o o2 : Cm} {a b c : E} (q : WE P call a s m (fun x m => WE P call b s m (fun y m => WCmp P call o x y m (fun r m => IsB r fun k => Wif k (WE P call c s m (fun z m => WCmp P call o2 y z m Q X) X) (Q (.bl false) m)) X) X) X) : WE P call (.cmp2 a o b o2 c) s m Q X := by
  unfold WE at q ⊢
  unfold WCmp at q
  unfold evE
  refine tr_bind (tr_mono q (fun x m q => ?_) fun _ _ _ h => h)
  refine tr_bind (tr_mono q (fun y m q => ?_) fun _ _ _ h => h)
  refine tr_bind (tr_mono q (fun r m q => ?_) fun _ _ _ h => h)
  unfold IsB Wif at q
  cases r with
  | bl b =>
    cases b with
    | false => exact q
    | true => exact tr_bind q
  | _ => exact q.elim
theorem we_and {a b : E} (q : WE P call a s m (fun x m => WAnd x m (WE P call b s m Q X) Q) X) : WE P call (.and a b) s m Q X := by
  unfold WE at q ⊢
  unfold evE
  refine tr_bind (tr_mono q (fun x m q => ?_) fun _ _ _ h => h)
  unfold WAnd at q
  split at q <;> rename_i e
  · rw [e]; exact q
  · rw [e]; exact q
  · exact q.elim
theorem we_or {a b : E} (q : WE P call a s m (fun x m => WOr x m (WE P call b s m Q X) Q) X) : WE P call (.or a b) s m Q X := by
  unfold WE at q ⊢
  unfold evE
  refine tr_bind (tr_mono q (fun x m q => ?_) fun _ _ _ h => h)
  unfold WOr at q
  split at q <;> rename_i e
  · rw [e]; exact q
  · rw [e]; exact q
  · exact q.elim
theorem wand_bl {b : Bool} {T : Prop} (q : Wif b T (Q (.bl false) m)) : WAnd (.bl b) m T Q := by
  unfold WAnd; unfold Wif at q
  cases b <;> exact q
theorem wor_bl {b : Bool} {F : Prop} (q : Wif b (Q (.bl true) m) F) : WOr (.bl b) m F Q := by
  unfold WOr; unfold Wif at q
  cases b <;> exact q
theorem wand_k {x : D} {b : Bool} {T : Prop} (h : tru m x = some b) (q : Wif b T (Q x m)) : WAnd x m T Q := by
  unfold WAnd; unfold Wif at q
  rw [h]
  cases b <;> exact q
theorem wor_k {x : D} {b : Bool} {F : Prop} (h : tru m x = some b) (q : Wif b (Q x m) F) : WOr x m F Q := by
  unfold WOr; unfold Wif at q
  rw [h]
  cases b <;> exact q
theorem wt_bl {b : Bool} {T F : Mu → Prop} (q : Wif b (T m) (F m)) : WT P call (.bl b) m T F X := by unfold WT; exact q
theorem wt_int {i : Int} {T F : Mu → Prop} (q : Wif (decide (i ≠ 0)) (T m) (F m)) : WT P call (.int i) m T F X := by
  unfold WT
  show Wif (i != 0) _ _
  rw [show (i != 0) = decide (i ≠ 0) by by_cases h : i = 0 <;> simp [h]]
  exact q
theorem wt_k {x : D} {b : Bool} {T F : Mu → Prop} (h : tru m x = some b) (h2 : ∀ c fs, dr m x ≠ .ins c fs) (q : Wif b (T m) (F m)) : WT P call x m T F X := by
  unfold WT truI
  split
  · rename_i e; exact absurd e (h2 _ _)
  · rw [h]; exact q
theorem we_ite {c a b : E} (q : WE P call c s m (fun x m => WT P call x m (fun m => WE P call a s m Q X) (fun m => WE P call b s m Q X) X) X) : WE P call (.ite c a b) s m Q X := by
  unfold WE at q ⊢
  unfold WT at q
  unfold evE
  refine tr_bind (tr_mono q (fun x m q => ?_) fun _ _ _ h => h)
  refine tr_bind (tr_mono q (fun k m q => ?_) fun _ _ _ h => h)
  unfold Wif at q
  cases k <;> exact q
theorem wl_nil {Q : List D → Mu → Prop} (q : Q [] m) : WL P call [] s m Q X := by unfold WL evL; exact q
theorem wl_cons {e : E} {es : List E} {Q : List D → Mu → Prop} (q : WE P call e s m (fun x m => WL P call es s m (fun xs m => Q (x :: xs) m) X) X) : WL P call (e :: es) s m Q X := by
  unfold WE at q
  unfold WL at q ⊢
  unfold evL
  refine tr_bind (tr_mono q (fun x m q => ?_) fun _ _ _ h => h)
  exact tr_bind q
theorem tr_len {es : List E} {Q : List D → Mu → Prop} (q : Tr (evL P call es s m) Q X) : Tr (evL P call es s m) (fun vs m => vs.length = es.length ∧ Q vs m) X := by
  cases h : evL P call es s m with
  | ok a m' =>
    rw [h] at q
    exact ⟨evL_len h, q⟩
  | exc c fs m' => rw [h] at q; exact q
  | stuck => rw [h] at q; exact q
theorem we_tup {es : List E} (h : Nat.ble es.length 1000000 = true) (q : WL P call es s m (fun vs m => Q (.tup vs) m) X) : WE P call (.tup es) s m Q X := by
  unfold WE; unfold WL at q
  unfold evE
  refine tr_bind (tr_mono (tr_len q) (fun x m q => ?_) fun _ _ _ h => h)
  refine tr_when ?_ q.2
  unfold big
  rw [q.1, decide_eq_true (Nat.le_of_ble_eq_true h)]
theorem we_lst {es : List E} (h : Nat.ble es.length 1000000 = true) (q : WL P call es s m (fun vs m => Q (.lst vs) m) X) : WE P call (.lst false es) s m Q X := by
  unfold WE; unfold WL at q
  unfold evE
  refine tr_bind (tr_mono (tr_len q) (fun x m q => ?_) fun _ _ _ h => h)
  refine tr_when ?_ q.2
  unfold big
  rw [q.1, decide_eq_true (Nat.le_of_ble_eq_true h)]
theorem we_lstk {es : List E} (h : Nat.ble es.length 1000000 = true) (q : WL P call es s m (fun vs m => Q (.loc m.length) (m ++ [some (.lst vs)])) X) : WE P call (.lst true es) s m Q X := by
  unfold WE; unfold WL at q
  unfold evE
  refine tr_bind (tr_mono (tr_len q) (fun x m q => ?_) fun _ _ _ h => h)
  refine tr_when ?_ q.2
  unfold big
  rw [q.1, decide_eq_true (Nat.le_of_ble_eq_true h)]
theorem we_dic0 (q : Q (.dic []) m) : WE P call .dic0 s m Q X := by unfold WE evE; exact q
theorem we_ix {a i : E} (q : WE P call a s m (fun x m => WE P call i s m (fun y m => WIx x y m Q X) X) X) : WE P call (.ix a i) s m Q X := by
  unfold WE at q ⊢
  unfold WIx at q
  unfold evE
  refine tr_bind (tr_mono q (fun x m q => ?_) fun _ _ _ h => h)
  exact tr_bind q
theorem wix {x v : D} {xs : List D} {j : Int} (h : sq m x = some xs) (h2 : ixD xs j = some v) (q : Q v m) : WIx x (.int j) m Q X := by
  unfold WIx
  unfold sq at h
  split at h <;> rename_i e
  · cases h; rw [e]; exact tr_ofOpt h2 q
  · cases h; rw [e]; exact tr_ofOpt h2 q
  · cases h
theorem we_slc {a : E} {lo hi : Option E} (q : WE P call a s m (fun x m => WO P call lo s m (fun l m => WO P call hi s m (fun h m => WSlc x l h m Q X) X) X) X) : WE P call (.slc a lo hi) s m Q X := by
  unfold WE at q ⊢
  unfold WO at q
  unfold WSlc at q
  unfold evE
  refine tr_bind (tr_mono q (fun x m q => ?_) fun _ _ _ h => h)
  refine tr_bind (tr_mono q (fun x m q => ?_) fun _ _ _ h => h)
  exact tr_bind q
theorem wo_none {Q : Option Int → Mu → Prop} (q : Q none m) : WO P call none s m Q X := by unfold WO evO; exact q
theorem wo_some {e : E} {Q : Option Int → Mu → Prop} (q : WE P call e s m (fun x m => IsI x fun i => Q (some i) m) X) : WO P call (some e) s m Q X := by
  unfold WE at q
  unfold WO evO
  refine tr_bind (tr_mono q (fun x m q => ?_) fun _ _ _ h => h)
  unfold IsI at q
  cases x <;> first | exact q | exact q.elim
theorem wslc_l {x : D} {xs : List D} {l h : Option Int} (e : dr m x = .lst xs) (q : Q (.lst (slice xs l h)) m) : WSlc x l h m Q X := by
  unfold WSlc; rw [e]; exact q
theorem wslc_t {x : D} {xs : List D} {l h : Option Int} (e : dr m x = .tup xs) (q : Q (.tup (slice xs l h)) m) : WSlc x l h m Q X := by
  unfold WSlc; rw [e]; exact q
theorem wslc_s {ns : List Int} {l h : Option Int} (q : Q (.lst ((slice ns l h).map .int)) m) : WSlc (.scr ns) l h m Q X := by
  unfold WSlc; exact q
theorem we_rev {a : E} (q : WE P call a s m (fun x m => WRev x m Q) X) : WE P call (.rev a) s m Q X := by
  unfold WE at q ⊢
  unfold evE
  refine tr_bind (tr_mono q (fun x m q => ?_) fun _ _ _ h => h)
  unfold WRev at q
  obtain ⟨xs, e, q⟩ := q
  rw [e]; exact q
theorem wrev {x : D} {xs : List D} (h : dr m x = .lst xs) (q : Q (.lst xs.reverse) m) : WRev x m Q := by unfold WRev; exact ⟨_, h, q⟩
theorem wfk {f : Nat} {d : Df} {as us bs : List D} {ks : List Nat} (h : P.df f = some d) (hb : bindK d.ps as ks us d.dfl = some bs) (q : WF call f bs m Q X) : WFk P call f as ks us m Q X := by
  unfold WFk callK
  rw [h]
  show Tr (match bindK d.ps as ks us d.dfl with
    | some as => call f as m
    | none => .stuck) Q X
  rw [hb]
  unfold WF at q
  exact q
theorem we_call {f : Nat} {es : List E} {ks : List Nat} {ws : List E} (q : WL P call es s m (fun vs m => WL P call ws s m (fun us m => WFk P call f vs ks us m Q X) X) X) : WE P call (.call f es ks ws) s m Q X := by
  unfold WE; unfold WL at q; unfold WFk at q
  unfold evE
  refine tr_bind (tr_mono q (fun x m q => ?_) fun _ _ _ h => h)
  exact tr_bind q
theorem we_new {c : Nat} {es : List E} {ks : List Nat} {ws : List E} (q : WL P call es s m (fun vs m => WL P call ws s m (fun us m => WNew P call c vs ks us m Q X) X) X) : WE P call (.new c es ks ws) s m Q X := by
  unfold WE; unfold WL at q; unfold WNew at q
  unfold evE
  refine tr_bind (tr_mono q (fun x m q => ?_) fun _ _ _ h => h)
  exact tr_bind q
theorem wnew_k {c f : Nat} {as us : List D} {ks : List Nat} (h : P.init c = some f) (hk : P.keepC c = true) (q : WFk P call f (.loc m.length :: as) ks us (m ++ [some (.ins c [])]) (fun r m2 => r = .non ∧ Q (.loc m.length) m2) X) : WNew P call c as ks us m Q X := by
  unfold WFk at q
  unfold WNew newD
  rw [h]
  refine tr_bind (tr_mono q (fun x m q => ?_) fun _ _ _ h => h)
  obtain ⟨rfl, q⟩ := q
  simp only [hk, if_true]
  exact q
theorem wnew_v {c f : Nat} {as us : List D} {ks : List Nat} (h : P.init c = some f) (hk : P.keepC c = false) (q : WFk P call f (.loc m.length :: as) ks us (m ++ [some (.ins c [])]) (fun r m2 => r = .non ∧ ∃ o m3, lay m2 m.length (.loc m.length) = some o ∧ cut m2 m.length = some m3 ∧ Q o m3) X) : WNew P call c as ks us m Q X := by
  unfold WFk at q
  unfold WNew newD
  rw [h]
  refine tr_bind (tr_mono q (fun x m q => ?_) fun _ _ _ h => h)
  obtain ⟨rfl, o, m3, e1, e2, q⟩ := q
  simp only [hk, Bool.false_eq_true, if_false, e1, e2]
  exact q
theorem we_meth {o : E} {n : Nat} {es : List E} {ks : List Nat} {ws : List E} (q : WE P call o s m (fun x m => WMeth P x n m fun f => WL P call es s m (fun vs m => WL P call ws s m (fun us m => WFk P call f (x :: vs) ks us m Q X) X) X) X) : WE P call (.meth o n es ks ws) s m Q X := by
  unfold WE at q ⊢; unfold WL at q; unfold WFk at q
  unfold evE
  refine tr_bind (tr_mono q (fun x m q => ?_) fun _ _ _ h => h)
  unfold WMeth at q
  obtain ⟨c, fs, f, e1, e2, e3, e4, q⟩ := q
  unfold methD
  rw [e1]
  simp only [e2, e3, e4]
  refine tr_when rfl (tr_bind (tr_mono q (fun x m q => ?_) fun _ _ _ h => h))
  exact tr_bind q
theorem wmeth {x : D} {n c f : Nat} {fs : List (Nat × D)} {K : Nat → Prop} (h1 : dr m x = .ins c fs) (h2 : fs.lookup n = none) (h3 : P.meth c n = some f) (h4 : P.cls c = true) (q : K f) : WMeth P x n m K := by unfold WMeth; exact ⟨_, _, _, h1, h2, h3, h4, q⟩
theorem we_bi {f : Bi} {k : Bool} {es : List E} (q : WL P call es s m (fun vs m => WBi f k m vs Q X) X) : WE P call (.bi f k es) s m Q X := by
  unfold WE; unfold WL at q; unfold WBi at q
  unfold evE
  exact tr_bind q
theorem we_bm {o : E} {f : Bm} {es : List E} (q : WE P call o s m (fun x m => WBmT f x m (WL P call es s m (fun vs m => WBm f x m vs Q X) X)) X) : WE P call (.bm o f es) s m Q X := by
  unfold WE at q ⊢; unfold WL at q; unfold WBm at q
  unfold evE
  refine tr_bind (tr_mono q (fun x m q => ?_) fun _ _ _ h => h)
  unfold WBmT at q
  exact tr_when q.1 (tr_bind q.2)
theorem wbmt {f : Bm} {x : D} {T : Prop} (h : bmTy f (dr m x) = true) (q : T) : WBmT f x m T := by unfold WBmT; exact ⟨h, q⟩
theorem we_strI {a : E} (q : WE P call a s m (fun x m => WStr P call x m Q X) X) : WE P call (.strI a) s m Q X := by
  unfold WE at q ⊢; unfold WStr at q
  unfold evE
  exact tr_bind q
theorem wstr_s {x : Str} (q : Q (.str x) m) : WStr P call (.str x) m Q X := by unfold WStr; exact q
theorem wstr_v {c g : Nat} {fs : List (Nat × D)} {x : D} (h : dr m x = .ins c fs) (h2 : P.strm c = some g) (q : WF call g [x] m (fun r m => IsS r fun z => Q (.str z) m) X) : WStr P call x m Q X := by
  unfold WStr; rw [h]
  simp only [h2]
  unfold WF at q
  refine tr_bind (tr_mono q (fun x m q => ?_) fun _ _ _ h => h)
  unfold IsS at q
  cases x <;> first | exact q | exact q.elim
theorem we_isi {a : E} {ts : List TyR} (q : WE P call a s m (fun x m => WIsi P x ts m Q) X) : WE P call (.isi a ts) s m Q X := by
  unfold WE at q ⊢
  unfold evE
  refine tr_bind (tr_mono q (fun x m q => ?_) fun _ _ _ h => h)
  unfold WIsi at q
  obtain ⟨b, e, q⟩ := q
  rw [e]; exact q
theorem wisi {x : D} {ts : List TyR} {b : Bool} (h : isAny P (dr m x) ts = some b) (q : Q (.bl b) m) : WIsi P x ts m Q := by unfold WIsi; exact ⟨_, h, q⟩
theorem we_fld {o : E} {f : Nat} (q : WE P call o s m (fun x m => WFld P call f x m Q X) X) : WE P call (.fld o f) s m Q X := by
  unfold WE at q ⊢; unfold WFld at q
  unfold evE
  exact tr_bind q
theorem wfld {f c : Nat} {d v : D} {fs : List (Nat × D)} (h : dr m d = .ins c fs) (h2 : fs.lookup f = some v) (h3 : (P.cls c && P.fld c f) = true) (q : Q v m) : WFld P call f d m Q X := by
  unfold WFld fldD
  rw [h]
  simp only [h2, h3]
  exact q
theorem wfld_x {f c : Nat} {d v : D} {fs : List (Nat × D)} (h : dr m d = .exc c fs) (h2 : fs.lookup f = some v) (h3 : (P.xcls c && P.fld c f) = true) (q : Q v m) : WFld P call f d m Q X := by
  unfold WFld fldD
  rw [h]
  simp only [h2, h3]
  exact q
theorem wfld_p {f c g : Nat} {d : D} {fs : List (Nat × D)} (h : dr m d = .ins c fs) (h2 : fs.lookup f = none) (h3 : P.prop c f = some g) (q : WF call g [d] m Q (fun _ _ _ => False)) : WFld P call f d m Q X := by
  unfold WFld fldD
  rw [h]
  simp only [h2, h3]
  unfold WF at q
  exact tr_nox q
theorem wi_seq {a : E} {Q : List D → Mu → Prop} (q : WE P call a s m (fun x m => WItm x fun xs => Q xs m) X) : WI P call (.seq a) s m Q X := by
  unfold WE at q
  unfold WI evI
  refine tr_bind (tr_mono q (fun x m q => ?_) fun _ _ _ h => h)
  unfold WItm at q
  obtain ⟨b, e, q⟩ := q
  rw [e]; exact q
theorem witm {x : D} {xs : List D} {K : List D → Prop} (h : itemsD x = some xs) (q : K xs) : WItm x K := by unfold WItm; exact ⟨_, h, q⟩
theorem wrng {vs : List D} {xs : List D} {K : List D → Prop} (h : rngD vs = some xs) (q : K xs) : WRng vs K := by unfold WRng; exact ⟨_, h, q⟩
theorem wi_rng {es : List E} {Q : List D → Mu → Prop} (q : WL P call es s m (fun vs m => WRng vs fun xs => Q xs m) X) : WI P call (.rng es) s m Q X := by
  unfold WL at q
  unfold WI evI
  refine tr_bind (tr_mono q (fun x m q => ?_) fun _ _ _ h => h)
  unfold WRng at q
  obtain ⟨b, e, q⟩ := q
  rw [e]; exact q
theorem wts_nil {T F : Mu → Prop} (q : T m) : WTs P call [] s m T F X := by unfold WTs evT; exact wif_t q
theorem wts_cons {e : E} {es : List E} {T F : Mu → Prop} (q : WE P call e s m (fun x m => WT P call x m (fun m => WTs P call es s m T F X) F X) X) : WTs P call (e :: es) s m T F X := by
  unfold WE at q
  unfold WT WTs at q
  unfold WTs evT
  refine tr_bind (tr_mono q (fun x m q => ?_) fun _ _ _ h => h)
  refine tr_bind (tr_mono q (fun k m q => ?_) fun _ _ _ h => h)
  cases k
  · unfold Wif at q; exact wif_f q
  · have q := wif_true_iff q; exact q
/-- a comprehension of what does nothing else: an item's part of it -/
theorem compL_fm {one : D → Mu → Res (Option D)} {g : D → Option D} : ∀ (ds acc : List D), (∀ d ∈ ds, one d m = .ok (g d) m) → acc.length + (ds.filterMap g).length ≤ 1000001 → compL one ds acc m = .ok (acc ++ ds.filterMap g) m
  | [], acc, _, _ => by simp [compL]
  | d :: ds, acc, h, hl => by
    unfold compL
    rw [h d (by simp), Res.bind_ok]
    cases e : g d with
    | none =>
      rw [List.filterMap_cons, e] at hl
      simp only [] at hl ⊢
      rw [compL_fm ds acc (fun x hx => h x (by simp [hx])) hl, List.filterMap_cons, e]
    | some y =>
      rw [List.filterMap_cons, e] at hl
      simp only [List.length_cons] at hl
      have hb : big acc.length = true := by unfold big; exact decide_eq_true (by omega)
      simp only [hb, Res.when_true]
      rw [compL_fm ds (acc ++ [y]) (fun x hx => h x (by simp [hx])) (by rw [List.length_append, List.length_singleton]; omega), List.filterMap_cons, e]
      simp
/-- one turn of a comprehension: what is wanted -/
@[irreducible] def WOne (e : E) (t : Tg) (ifs : List E) (s : Sl) (g : D → Option D) (P : Pr) (call : Cal) (m : Mu) (d : D) : Prop :=
  ∃ s2, asgT m t d (wipeA s (tgIx t)) = some s2 ∧ WTs P call ifs s2 m (fun m' => WE P call e s2 m' (fun y m'' => g d = some y ∧ m'' = m) (fun _ _ _ => False)) (fun m' => g d = none ∧ m' = m) (fun _ _ _ => False)
theorem wone {e : E} {t : Tg} {ifs : List E} {g : D → Option D} {d : D} {s2 : Sl} (h : asgT m t d (wipeA s (tgIx t)) = some s2)
    (q : WTs P call ifs s2 m (fun m' => WE P call e s2 m' (fun y m'' => g d = some y ∧ m'' = m) (fun _ _ _ => False)) (fun m' => g d = none ∧ m' = m) (fun _ _ _ => False)) : WOne e t ifs s g P call m d := by
  unfold WOne
  exact ⟨s2, h, q⟩
theorem wone_run {e : E} {t : Tg} {ifs : List E} {g : D → Option D} {d : D} (q : WOne e t ifs s g P call m d) : (match asgT m t d (wipeA s (tgIx t)) with
      | some s2 => (evT P call ifs s2 m).bind fun b m => if b then (evE P call e s2 m).bind fun y m => .ok (some y) m else .ok none m
      | none => .stuck) = Res.ok (g d) m := by
  unfold WOne at q
  obtain ⟨s2, h, q⟩ := q
  rw [h]
  simp only []
  unfold WTs at q
  obtain ⟨b, m1, e1, q⟩ := tr_get q
  rw [e1, Res.bind_ok]
  unfold Wif at q
  cases b with
  | false =>
    obtain ⟨q1, rfl⟩ := q
    rw [q1]; rfl
  | true =>
    simp only [if_true] at q ⊢
    unfold WE at q
    obtain ⟨y, m2, e2, q1, rfl⟩ := tr_get q
    rw [e2, Res.bind_ok, q1]
theorem we_comp {k : Bool} {e : E} {t : Tg} {it : It} {ifs : List E} (g : D → Option D) (q : WI P call it s m (fun ds m => (ds.filterMap g).length ≤ 1000001 ∧ (∀ d ∈ ds, WOne e t ifs s g P call m d) ∧ Tr (mk k m (.lst (ds.filterMap g))) Q (fun _ _ _ => False)) (fun _ _ _ => False)) : WE P call (.comp k e t it ifs) s m Q X := by
  unfold WE
  unfold WI at q
  unfold evE
  obtain ⟨ds, m1, e1, hl, h, q⟩ := tr_get q
  rw [e1, Res.bind_ok]
  refine tr_nox (tr_bind ?_)
  rw [compL_fm ds [] (fun d hd => wone_run (h d hd)) (by simpa using hl)]
  exact q
/-- what is gone through twice -/
theorem compLL_bind {one : D → List D → Mu → Res (List D)} {g : D → List D} {n : Nat} : ∀ (ds acc : List D), (∀ d ∈ ds, ∀ acc : List D, acc.length + (g d).length ≤ n → one d acc m = .ok (acc ++ g d) m) → acc.length + (ds.flatMap g).length ≤ n → compLL one ds acc m = .ok (acc ++ ds.flatMap g) m
  | [], acc, _, _ => by simp [compLL]
  | d :: ds, acc, h, hl => by
    rw [List.flatMap_cons, List.length_append] at hl
    unfold compLL
    rw [h d (by simp) acc (by omega), Res.bind_ok, compLL_bind ds (acc ++ g d) (fun x hx => h x (by simp [hx])) (by rw [List.length_append]; omega)]
    simp
@[irreducible] def WTwo (e : E) (t : Tg) (ifs : List E) (t2 : Tg) (it2 : It) (ifs2 : List E) (s : Sl) (g : D → List D) (h : D → D → Option D) (P : Pr) (call : Cal) (m : Mu) (d : D) : Prop :=
  ∃ s2, asgT m t d (wipeA s (tgIx t ++ tgIx t2)) = some s2 ∧ WTs P call ifs s2 m (fun m' => WI P call it2 s2 m' (fun ds m'' => m'' = m ∧ ds.filterMap (h d) = g d ∧ ∀ d2 ∈ ds, WOne e t2 ifs2 s2 (h d) P call m d2) (fun _ _ _ => False)) (fun m' => g d = [] ∧ m' = m) (fun _ _ _ => False)
theorem wtwo {e : E} {t : Tg} {ifs : List E} {t2 : Tg} {it2 : It} {ifs2 : List E} {g : D → List D} {h : D → D → Option D} {d : D} {s2 : Sl} (h1 : asgT m t d (wipeA s (tgIx t ++ tgIx t2)) = some s2)
    (q : WTs P call ifs s2 m (fun m' => WI P call it2 s2 m' (fun ds m'' => m'' = m ∧ ds.filterMap (h d) = g d ∧ ∀ d2 ∈ ds, WOne e t2 ifs2 s2 (h d) P call m d2) (fun _ _ _ => False)) (fun m' => g d = [] ∧ m' = m) (fun _ _ _ => False)) : WTwo e t ifs t2 it2 ifs2 s g h P call m d := by
  unfold WTwo
  exact ⟨s2, h1, q⟩
theorem wtwo_run {e : E} {t : Tg} {ifs : List E} {t2 : Tg} {it2 : It} {ifs2 : List E} {g : D → List D} {h : D → D → Option D} {d : D} {acc : List D} (ha : acc.length + (g d).length ≤ 1000001) (q : WTwo e t ifs t2 it2 ifs2 s g h P call m d) : (match asgT m t d (wipeA s (tgIx t ++ tgIx t2)) with
      | some s2 => (evT P call ifs s2 m).bind fun b m => if b then (evI P call it2 s2 m).bind fun ds2 m => compL (fun d2 m => match asgT m t2 d2 (wipeA s2 (tgIx t2)) with
          | some s3 => (evT P call ifs2 s3 m).bind fun b m => if b then (evE P call e s3 m).bind fun y m => .ok (some y) m else .ok none m
          | none => .stuck) ds2 acc m else .ok acc m
      | none => .stuck) = Res.ok (acc ++ g d) m := by
  unfold WTwo at q
  obtain ⟨s2, h1, q⟩ := q
  rw [h1]
  simp only []
  unfold WTs at q
  obtain ⟨b, m1, e1, q⟩ := tr_get q
  rw [e1, Res.bind_ok]
  unfold Wif at q
  cases b with
  | false =>
    obtain ⟨q1, rfl⟩ := q
    rw [q1]; simp
  | true =>
    simp only [if_true] at q ⊢
    unfold WI at q
    obtain ⟨ds, m2, e2, rfl, q1, q2⟩ := tr_get q
    rw [e2, Res.bind_ok]
    rw [compL_fm ds acc (fun d hd => wone_run (q2 d hd)) (by rw [q1]; exact ha), q1]
theorem we_comp2 {k : Bool} {e : E} {t : Tg} {it : It} {ifs : List E} {t2 : Tg} {it2 : It} {ifs2 : List E} (g : D → List D) (h : D → D → Option D) (q : WI P call it s m (fun ds m => (ds.flatMap g).length ≤ 1000001 ∧ (∀ d ∈ ds, WTwo e t ifs t2 it2 ifs2 s g h P call m d) ∧ Tr (mk k m (.lst (ds.flatMap g))) Q (fun _ _ _ => False)) (fun _ _ _ => False)) : WE P call (.comp2 k e t it ifs t2 it2 ifs2) s m Q X := by
  unfold WE
  unfold WI at q
  unfold evE
  obtain ⟨ds, m1, e1, hl, hh, q⟩ := tr_get q
  rw [e1, Res.bind_ok]
  refine tr_nox (tr_bind ?_)
  rw [compLL_bind (n := 1000001) ds [] (fun d hd acc ha => wtwo_run ha (hh d hd)) (by simpa using hl)]
  exact q
theorem tr_mkf {d : D} (q : Q d m) : Tr (mk false m d) Q X := q
theorem tr_mkt {d : D} (q : Q (.loc m.length) (m ++ [some d])) : Tr (mk true m d) Q X := q
/-! ### what operators make -/
theorem wo_add {i j : Int} (q : Q (.int (i + j)) m) : WO2 .add m (.int i) (.int j) Q X := by unfold WO2; exact q
theorem wo_addb {i : Int} {j : Bool} (q : Q (.int (i + b2i j)) m) : WO2 .add m (.int i) (.bl j) Q X := by unfold WO2; exact q
theorem wo_sub {i j : Int} (q : Q (.int (i - j)) m) : WO2 .sub m (.int i) (.int j) Q X := by unfold WO2; exact q
theorem wo_mul {i j : Int} (h : mulOk i j = true) (q : Q (.int (i * j)) m) : WO2 .mul m (.int i) (.int j) Q X := by unfold WO2; exact tr_eq (mul_int m h) q
theorem wo_mod {i j : Int} (h : 0 < j) (q : Q (.int (i % j)) m) : WO2 .mod m (.int i) (.int j) Q X := by unfold WO2; exact tr_eq (mod_int m h) q
theorem wo_fdiv {i j : Int} (h : 0 < j) (h2 : j < 2 ^ 4096) (q : Q (.int (i / j)) m) : WO2 .fdiv m (.int i) (.int j) Q X := by unfold WO2; exact tr_eq (fdiv_int m h h2) q
theorem wo_pow {i j : Int} (h : 0 ≤ j) (h2 : j ≤ 1000000) (h3 : -(2 ^ 64) < i) (h4 : i < 2 ^ 64) (q : Q (.int (i ^ j.toNat)) m) : WO2 .pow m (.int i) (.int j) Q X := by unfold WO2; exact tr_eq (pow_int m h h2 h3 h4) q
theorem wo_addl {xs ys : List D} (h : xs.length + ys.length ≤ 1000000) (q : Q (.lst (xs ++ ys)) m) : WO2 .add m (.lst xs) (.lst ys) Q X := by unfold WO2; exact tr_eq (add_lst m h) q
theorem wo_addt {xs ys : List D} (h : xs.length + ys.length ≤ 1000000) (q : Q (.tup (xs ++ ys)) m) : WO2 .add m (.tup xs) (.tup ys) Q X := by
  unfold WO2
  show Tr (Res.when (big (xs.length + ys.length)) _) Q X
  exact tr_when (by unfold big; exact decide_eq_true h) q
theorem wo_adds {x y : Str} (h : x.length + y.length ≤ 1000000) (q : Q (.str (x ++ y)) m) : WO2 .add m (.str x) (.str y) Q X := by
  unfold WO2
  show Tr (Res.when (big (x.length + y.length)) _) Q X
  exact tr_when (by unfold big; exact decide_eq_true h) q
theorem wo_rep {xs : List D} {k : Int} (h1 : -(2 ^ 62) ≤ k) (h2 : k < 2 ^ 62) (h : xs.length * k.toNat ≤ 1000000) (q : Q (.lst (List.replicate k.toNat xs).flatten) m) : WO2 .mul m (.lst xs) (.int k) Q X := by
  unfold WO2
  show Tr (Res.when (decide (-(2 ^ 62) ≤ k) && (decide (k < 2 ^ 62) && big (xs.length * k.toNat))) _) Q X
  refine tr_when ?_ q
  unfold big
  rw [decide_eq_true h1, decide_eq_true h2, decide_eq_true h]; rfl
theorem wcmp_lt {i j : Int} (q : Q (.bl (decide (i < j))) m) : WCmp P call .lt (.int i) (.int j) m Q X := by unfold WCmp; exact q
theorem wcmp_le {i j : Int} (q : Q (.bl (decide (i ≤ j))) m) : WCmp P call .le (.int i) (.int j) m Q X := by unfold WCmp; exact q
theorem wcmp_gt {i j : Int} (q : Q (.bl (decide (j < i))) m) : WCmp P call .gt (.int i) (.int j) m Q X := by unfold WCmp; exact q
theorem wcmp_ge {i j : Int} (q : Q (.bl (decide (j ≤ i))) m) : WCmp P call .ge (.int i) (.int j) m Q X := by unfold WCmp; exact q
theorem wcmp_eqi {i j : Int} (q : Q (.bl (decide (i = j))) m) : WCmp P call .eq (.int i) (.int j) m Q X := by
  unfold WCmp
  refine tr_eq (cmp_eq_int m P call i j) ?_
  rw [show PyData.eqv (.int i) (.int j) = decide (i = j) by show (i == j) = _; by_cases h : i = j <;> simp [h]]
  exact q
theorem wcmp_nei {i j : Int} (q : Q (.bl (!decide (i = j))) m) : WCmp P call .ne (.int i) (.int j) m Q X := by
  unfold WCmp
  have e : cmpD P call .ne (.int i) (.int j) m = .ok (.bl (!PyData.eqv (.int i) (.int j))) m := rfl
  refine tr_eq e ?_
  rw [show PyData.eqv (.int i) (.int j) = decide (i = j) by show (i == j) = _; by_cases h : i = j <;> simp [h]]
  exact q
theorem wcmp_eqs {i j : Str} (q : Q (.bl (decide (i = j))) m) : WCmp P call .eq (.str i) (.str j) m Q X := by
  unfold WCmp
  refine tr_eq (cmp_eq_str m P call i j) ?_
  rw [show PyData.eqv (.str i) (.str j) = decide (i = j) by show (i == j) = _; by_cases h : i = j <;> simp [h]]
  exact q
theorem wcmp_nes {i j : Str} (q : Q (.bl (!decide (i = j))) m) : WCmp P call .ne (.str i) (.str j) m Q X := by
  unfold WCmp
  have e : cmpD P call .ne (.str i) (.str j) m = .ok (.bl (!PyData.eqv (.str i) (.str j))) m := rfl
  refine tr_eq e ?_
  rw [show PyData.eqv (.str i) (.str j) = decide (i = j) by show (i == j) = _; by_cases h : i = j <;> simp [h]]
  exact q
/-- == of what is data -/
theorem wcmp_eqd {x y : D} {b : Bool} (h1 : ∀ c fs, dr m x ≠ .ins c fs) (h2 : ∀ c fs, dr m y ≠ .ins c fs) (h : eqD m x y = some b) (q : Q (.bl b) m) : WCmp P call .eq x y m Q X := by
  unfold WCmp
  refine tr_eq (a := .bl b) (m := m) ?_ q
  show eqI P call false x y m = _
  unfold eqI
  split
  · rename_i e; exact absurd e (h1 _ _)
  · split
    · rename_i e; exact absurd e (h2 _ _)
    · rw [h]; rfl
theorem wcmp_ned {x y : D} {b : Bool} (h1 : ∀ c fs, dr m x ≠ .ins c fs) (h2 : ∀ c fs, dr m y ≠ .ins c fs) (h : eqD m x y = some b) (q : Q (.bl (!b)) m) : WCmp P call .ne x y m Q X := by
  unfold WCmp
  refine tr_eq (a := .bl (!b)) (m := m) ?_ q
  show eqI P call true x y m = _
  unfold eqI
  split
  · rename_i e; exact absurd e (h1 _ _)
  · split
    · rename_i e; exact absurd e (h2 _ _)
    · rw [h]; rfl
/-- == of an own object -/
theorem wcmp_eqo {x y : D} {c f : Nat} {fs : List (Nat × D)} (h1 : dr m x = .ins c fs) (h2 : P.eqm c = some f) (h3 : eqOk c (dr m y) = true) (q : WF call f [x, y] m (fun r m => IsB r fun k => Q (.bl k) m) X) : WCmp P call .eq x y m Q X := by
  unfold WF at q
  unfold WCmp cmpD eqI
  simp only []
  rw [h1]
  simp only [h2, h3, if_true]
  refine tr_bind (tr_mono q (fun x m q => ?_) fun _ _ _ h => h)
  unfold IsB at q
  cases x <;> first | exact q | exact q.elim
theorem wcmp_neo {x y : D} {c f : Nat} {fs : List (Nat × D)} (h1 : dr m x = .ins c fs) (h2 : P.eqm c = some f) (h3 : eqOk c (dr m y) = true) (q : WF call f [x, y] m (fun r m => IsB r fun k => Q (.bl (!k)) m) X) : WCmp P call .ne x y m Q X := by
  unfold WF at q
  unfold WCmp cmpD eqI
  simp only []
  rw [h1]
  simp only [h2, h3, if_true]
  refine tr_bind (tr_mono q (fun x m q => ?_) fun _ _ _ h => h)
  unfold IsB at q
  cases x <;> first | exact q | exact q.elim
theorem wcmp_in {x y : D} {b : Bool} (h : anyD m x y = some b) (q : Q (.bl b) m) : WCmp P call .in_ x y m Q X := by
  unfold WCmp
  show Tr (Res.ofOpt m ((anyD m x y).map fun k => D.bl (if false then !k else k))) Q X
  rw [h]; exact q
theorem wcmp_notin {x y : D} {b : Bool} (h : anyD m x y = some b) (q : Q (.bl (!b)) m) : WCmp P call .notin x y m Q X := by
  unfold WCmp
  show Tr (Res.ofOpt m ((anyD m x y).map fun k => D.bl (if true then !k else k))) Q X
  rw [h]; exact q
theorem wcmp_isn {x : D} (q : Q (.bl (isN x)) m) : WCmp P call .is_ x .non m Q X := by
  unfold WCmp
  refine tr_eq (a := .bl (isN x)) (m := m) ?_ q
  cases x <;> rfl
theorem wcmp_isnotn {x : D} (q : Q (.bl (!isN x)) m) : WCmp P call .isnot x .non m Q X := by
  unfold WCmp
  refine tr_eq (a := .bl (!isN x)) (m := m) ?_ q
  cases x <;> rfl
end
/-! ### built-ins -/
section
variable {m : Mu} {Q : D → Mu → Prop} {X : Px}
theorem wbi {f : Bi} {k : Bool} {vs : List D} {v : D} {m' : Mu} (h : biD f k m vs = .ok v m') (q : Q v m') : WBi f k m vs Q X := by unfold WBi; exact tr_eq h q
theorem wbi_len {k : Bool} {x : D} {xs : List D} (h : sq m x = some xs) (q : Q (.int xs.length) m) : WBi .len k m [x] Q X := by
  refine wbi (v := .int xs.length) (m' := m) ?_ q
  show lenD m [x] = _
  unfold sq at h
  unfold lenD
  split at h <;> rename_i e
  · cases h; simp only [e]
  · cases h; simp only [e]
  · cases h
theorem wbm {f : Bm} {x : D} {vs : List D} {v : D} {m' : Mu} (h : bmD x f m vs = .ok v m') (q : Q v m') : WBm f x m vs Q X := by unfold WBm; exact tr_eq h q
end
/-! ### statements -/
section
variable {P : Pr} {call : Cal} {s : Sl} {m : Mu} {N : Sl → Mu → Prop} {R : D → Mu → Prop} {B C : Sl → Mu → Prop} {X : Ps}
theorem wss_nil (q : N s m) : WSs P call [] s m N R B C X := by unfold WSs evSs; exact q
theorem wss_cons {t : S} {ts : List S} (q : WS P call t s m (fun s m => WSs P call ts s m N R B C X) R B C X) : WSs P call (t :: ts) s m N R B C X := by
  unfold WS WSs at q
  unfold WSs evSs
  generalize evS P call t s m = r at q
  cases r with
  | ok f m => cases f <;> exact q
  | exc c fs s m => exact q
  | stuck => exact q.elim
theorem ws_asg {i : Nat} {e : E} (q : WE P call e s m (fun d m => N (s.set i (some d)) m) (fun c fs m => X c fs s m)) : WS P call (.asg (.t (.v i)) e) s m N R B C X := by
  unfold WE at q
  unfold WS evS
  exact ts_to q
theorem ws_asgt {ts : List Tg} {e : E} (q : WE P call e s m (fun d m => WAsgT ts d s m N) (fun c fs m => X c fs s m)) : WS P call (.asg (.t (.tup ts)) e) s m N R B C X := by
  unfold WE at q
  unfold WS evS
  refine ts_to (tr_mono q (fun x m q => ?_) fun _ _ _ h => h)
  unfold WAsgT at q
  obtain ⟨s', h, q⟩ := q
  show Ts (match asgT m (.tup ts) x s with
    | some s => .ok (.nxt s) m
    | none => .stuck) N R B C X
  rw [h]; exact q
theorem wasgt {ts : List Tg} {d : D} {s' : Sl} (h : asgT m (.tup ts) d s = some s') (q : N s' m) : WAsgT ts d s m N := by unfold WAsgT; exact ⟨_, h, q⟩
theorem wasgf {i c f : Nat} {d : D} {fs : List (Nat × D)} (h1 : m[i]? = some (some (.ins c fs))) (h2 : (P.cls c && (P.fld c f && decide (fs.length < 1000))) = true) (q : N s (setM m i (.ins c (setF f d fs)))) : WAsgF P (.loc i) f d s m N := by unfold WAsgF; exact ⟨_, _, _, rfl, h1, h2, q⟩
theorem wasgs {a : Nat} {j : Int} {d : D} {xs ys : List D} (h1 : m[a]? = some (some (.lst xs))) (h2 : setIx xs j d = some ys) (q : N s (setM m a (.lst ys))) : WAsgS (.loc a) (.int j) d s m N := by unfold WAsgS; exact ⟨_, _, _, _, rfl, rfl, h1, h2, q⟩
theorem wpar {ts : List Nat} {vs : List D} {s' : Sl} (h : parS ts vs s = some s') (q : N s' m) : WPar ts vs s m N := by unfold WPar; exact ⟨_, h, q⟩
theorem wraise {c : Nat} {vs : List D} {fs : List (Nat × D)} (h : excF P c vs = some fs) (q : X c fs s m) : WRaise P c vs s m X := by unfold WRaise; exact ⟨_, h, q⟩
theorem ws_asgf {o : E} {f : Nat} {e : E} (q : WE P call e s m (fun d m => WE P call o s m (fun x m => WAsgF P x f d s m N) (fun c fs m => X c fs s m)) (fun c fs m => X c fs s m)) : WS P call (.asg (.fld o f) e) s m N R B C X := by
  unfold WE at q
  unfold WS evS
  refine ts_to (tr_mono q (fun x m q => ?_) fun _ _ _ h => h)
  refine ts_to (tr_mono q (fun x m q => ?_) fun _ _ _ h => h)
  unfold WAsgF at q
  obtain ⟨i, c, fs, rfl, h1, h2, q⟩ := q
  simp only [h1, h2, if_true]
  exact q
theorem ws_asgs {o i : E} {e : E} (q : WE P call e s m (fun d m => WE P call o s m (fun x m => WE P call i s m (fun y m => WAsgS x y d s m N) (fun c fs m => X c fs s m)) (fun c fs m => X c fs s m)) (fun c fs m => X c fs s m)) : WS P call (.asg (.sub o i) e) s m N R B C X := by
  unfold WE at q
  unfold WS evS
  refine ts_to (tr_mono q (fun x m q => ?_) fun _ _ _ h => h)
  refine ts_to (tr_mono q (fun x m q => ?_) fun _ _ _ h => h)
  refine ts_to (tr_mono q (fun x m q => ?_) fun _ _ _ h => h)
  unfold WAsgS at q
  obtain ⟨a, j, xs, ys, rfl, rfl, h1, h2, q⟩ := q
  simp only [h1, h2]
  exact q
theorem ws_par {ts : List Nat} {es : List E} (q : WL P call es s m (fun vs m => WPar ts vs s m N) (fun c fs m => X c fs s m)) : WS P call (.par ts es) s m N R B C X := by
  unfold WL at q
  unfold WS evS
  refine ts_to (tr_mono q (fun x m q => ?_) fun _ _ _ h => h)
  unfold WPar at q
  obtain ⟨s', h, q⟩ := q
  simp only [h]
  exact q
theorem ws_ex {e : E} (q : WE P call e s m (fun _ m => N s m) (fun c fs m => X c fs s m)) : WS P call (.ex e) s m N R B C X := by
  unfold WE at q
  unfold WS evS
  exact ts_to q
theorem ws_ret {e : E} (q : WE P call e s m R (fun c fs m => X c fs s m)) : WS P call (.ret e) s m N R B C X := by
  unfold WE at q
  unfold WS evS
  exact ts_to q
theorem ws_retn (q : R .non m) : WS P call .retn s m N R B C X := by unfold WS evS; exact q
theorem ws_pass (q : N s m) : WS P call .pass s m N R B C X := by unfold WS evS; exact q
theorem ws_ite {c : E} {a b : List S} (q : WE P call c s m (fun x m => WT P call x m (fun m => WSs P call a s m N R B C X) (fun m => WSs P call b s m N R B C X) (fun c fs m => X c fs s m)) (fun c fs m => X c fs s m)) : WS P call (.ite c a b) s m N R B C X := by
  unfold WE at q
  unfold WT WSs at q
  unfold WS evS
  refine ts_to (tr_mono q (fun x m q => ?_) fun _ _ _ h => h)
  refine ts_to (tr_mono q (fun x m q => ?_) fun _ _ _ h => h)
  unfold Wif at q
  cases x <;> exact q
theorem ws_raise {c : Nat} {es : List E} (q : WL P call es s m (fun vs m => WRaise P c vs s m X) (fun c fs m => X c fs s m)) : WS P call (.raise c es) s m N R B C X := by
  unfold WL at q
  unfold WS evS
  refine ts_to (tr_mono q (fun x m q => ?_) fun _ _ _ h => h)
  unfold WRaise at q
  obtain ⟨s', h, q⟩ := q
  simp only [h]
  exact q
theorem ws_try {b : List S} {hs : List Hd} (q : WSs P call b s m N R B C (fun c fs s m => WH P call hs c fs s m N R B C X)) : WS P call (.try_ b hs) s m N R B C X := by
  unfold WSs at q
  unfold WH at q
  unfold WS evS
  generalize evSs P call b s m = r at q
  cases r with
  | ok f m => cases f <;> exact q
  | exc c fs s m => exact q
  | stuck => exact q.elim
theorem wh_nil {c : Nat} {fs : List (Nat × D)} (q : X c fs s m) : WH P call [] c fs s m N R B C X := by unfold WH evH; exact q
theorem wh_no {k c : Nat} {n : Option Nat} {b : List S} {hs : List Hd} {fs : List (Nat × D)} (h1 : (P.xcls c && P.xcls k) = true) (h2 : P.sub c k = false) (q : WH P call hs c fs s m N R B C X) : WH P call (.h k n b :: hs) c fs s m N R B C X := by
  unfold WH at q
  unfold WH evH
  simp only [h1, h2, if_true, Bool.false_eq_true, if_false]
  exact q
theorem wh_as {k c i : Nat} {b : List S} {hs : List Hd} {fs : List (Nat × D)} (h1 : (P.xcls c && P.xcls k) = true) (h2 : P.sub c k = true) (q : WSs P call b (s.set i (some (.exc c fs))) m (fun s m => N (s.set i none) m) R (fun s m => B (s.set i none) m) (fun s m => C (s.set i none) m) (fun _ _ _ _ => False)) : WH P call (.h k (some i) b :: hs) c fs s m N R B C X := by
  unfold WSs at q
  unfold WH evH
  simp only [h1, h2, if_true]
  generalize evSs P call b (s.set i (some (.exc c fs))) m = r at q
  cases r with
  | ok f m => cases f <;> exact q
  | exc c fs s m => exact q.elim
  | stuck => exact q.elim
theorem wh_one {k c : Nat} {b : List S} {hs : List Hd} {fs : List (Nat × D)} (h1 : (P.xcls c && P.xcls k) = true) (h2 : P.sub c k = true) (q : WSs P call b s m N R B C (fun _ _ _ _ => False)) : WH P call (.h k none b :: hs) c fs s m N R B C X := by
  unfold WSs at q
  unfold WH evH
  simp only [h1, h2, if_true]
  generalize evSs P call b s m = r at q
  cases r with
  | ok f m => cases f <;> exact q
  | exc c fs s m => exact q.elim
  | stuck => exact q.elim
/-- what stands behind a turn -/
@[irreducible] def Lv (b : Nat) (s : Sl) (m : Mu) (K : Sl → Mu → Prop) : Prop := ∃ s' m', leave b s m = some (s', m') ∧ K s' m'
theorem lv_eq {b : Nat} {K : Sl → Mu → Prop} (h : m.length = b) (q : K s m) : Lv b s m K := by
  unfold Lv
  exact ⟨s, m, by unfold leave; rw [if_pos h], q⟩
theorem forL_ok {b : Nat} {turn : D → Sl → Mu → RS} (I : List D → Sl → Mu → Prop)
    (h : ∀ d ds s m, I (d :: ds) s m → Ts (turn d s m) (fun s m => Lv b s m (I ds)) R N (fun s m => Lv b s m (I ds)) X)
    (he : ∀ s m, I [] s m → N s m) : ∀ ds s m, I ds s m → Ts (forL b turn ds s m) N R B C X
  | [], s, m, i => he s m i
  | d :: ds, s, m, i => by
    unfold forL
    have q := h d ds s m i
    generalize turn d s m = r at q
    cases r with
    | ok f m =>
      cases f with
      | nxt s =>
        have q : Lv b s m (I ds) := q
        unfold Lv at q
        obtain ⟨s', m', e, q⟩ := q
        simp only [e]
        exact forL_ok I h he ds s' m' q
      | cnt s =>
        have q : Lv b s m (I ds) := q
        unfold Lv at q
        obtain ⟨s', m', e, q⟩ := q
        simp only [e]
        exact forL_ok I h he ds s' m' q
      | brk s => exact q
      | ret v => exact q
    | exc c fs s m => exact q
    | stuck => exact q.elim
theorem ws_for {t : Tg} {it : It} {b : List S} (q : WI P call it s m (fun ds m => ∃ I : List D → Sl → Mu → Prop, I ds s m ∧ (∀ s m, I [] s m → N s m) ∧
    ∀ d ds s m', I (d :: ds) s m' → ∃ s', asgT m' t d s = some s' ∧ WSs P call b s' m' (fun s m' => Lv m.length s m' (I ds)) R N (fun s m' => Lv m.length s m' (I ds)) X) (fun c fs m => X c fs s m)) : WS P call (.for_ t it b) s m N R B C X := by
  unfold WI at q
  unfold WS evS
  refine ts_to (tr_mono q (fun ds m q => ?_) fun _ _ _ h => h)
  obtain ⟨I, i, he, q⟩ := q
  refine forL_ok I (fun d ds s m' i => ?_) he ds s m i
  obtain ⟨s', e, q⟩ := q d ds s m' i
  unfold WSs at q
  rw [e]
  exact q
theorem whL_ok {b : Nat} {test : Sl → Mu → Res Bool} {turn : Sl → Mu → RS} (I : Nat → Sl → Mu → Prop)
    (h : ∀ n s m, I n s m → Tr (test s m) (fun k m => Wif k (Ts (turn s m) (fun s m => Lv b s m (fun s m => ∃ n', n' < n ∧ I n' s m)) R N (fun s m => Lv b s m (fun s m => ∃ n', n' < n ∧ I n' s m)) X) (N s m)) (fun c fs m => X c fs s m)) :
    ∀ n f s m, n < f → I n s m → Ts (whL b test turn f s m) N R B C X := by
  intro n
  induction n using Nat.strongRecOn with
  | _ n ih =>
    intro f s m hf i
    cases f with
    | zero => omega
    | succ f =>
      unfold whL
      refine ts_to (tr_mono (h n s m i) (fun k m q => ?_) fun _ _ _ h => h)
      unfold Wif at q
      cases k with
      | false => exact q
      | true =>
        simp only [if_true] at q ⊢
        generalize turn s m = r at q
        cases r with
        | ok fl m =>
          cases fl with
          | nxt s =>
            have q : Lv b s m (fun s m => ∃ n', n' < n ∧ I n' s m) := q
            unfold Lv at q
            obtain ⟨s', m', e, n', hn, q⟩ := q
            simp only [e]
            exact ih n' hn f s' m' (by omega) q
          | cnt s =>
            have q : Lv b s m (fun s m => ∃ n', n' < n ∧ I n' s m) := q
            unfold Lv at q
            obtain ⟨s', m', e, n', hn, q⟩ := q
            simp only [e]
            exact ih n' hn f s' m' (by omega) q
          | brk s => exact q
          | ret v => exact q
        | exc c fs s m => exact q
        | stuck => exact q.elim
theorem ws_whl {c : E} {b : List S} (I : Nat → Sl → Mu → Prop) (n : Nat) (hn : n < 1000000) (i : I n s m)
    (q : ∀ n s m', I n s m' → WE P call c s m' (fun x m' => WT P call x m' (fun m' => WSs P call b s m' (fun s m' => Lv m.length s m' (fun s m' => ∃ n', n' < n ∧ I n' s m')) R N (fun s m' => Lv m.length s m' (fun s m' => ∃ n', n' < n ∧ I n' s m')) X) (fun m' => N s m') (fun c fs m => X c fs s m)) (fun c fs m => X c fs s m)) : WS P call (.whl c b) s m N R B C X := by
  unfold WS evS
  refine whL_ok I (fun n s m' i => ?_) n 1000000 s m hn i
  have q := q n s m' i
  unfold WE WT at q
  unfold WSs at q
  exact tr_bind q
end
/-! ### letting go -/
mutual
/-- only numbers below b -/
def nl (b : Nat) : D → Bool
  | .tup xs => nls b xs
  | .lst xs => nls b xs
  | .ins _ fs => nlF b fs
  | .exc _ fs => nlF b fs
  | .loc i => decide (i < b)
  | _ => true
def nls (b : Nat) : List D → Bool
  | [] => true
  | x :: xs => nl b x && nls b xs
def nlF (b : Nat) : List (Nat × D) → Bool
  | [] => true
  | (_, x) :: xs => nl b x && nlF b xs
end
theorem putBy_lt {m : Mu} {b i : Nat} (h : i < b) : ∀ n, putBy m b n i = some (.loc i)
  | 0 => by unfold putBy; rw [if_pos h]
  | n + 1 => by unfold putBy; rw [if_pos h]
mutual
theorem mapLoc_nl {m : Mu} {b n : Nat} : ∀ d : D, nl b d = true → mapLoc (putBy m b n) d = some d
  | .tup xs, h => by unfold nl at h; unfold mapLoc; rw [mapLocs_nl xs h]; rfl
  | .lst xs, h => by unfold nl at h; unfold mapLoc; rw [mapLocs_nl xs h]; rfl
  | .ins c xs, h => by unfold nl at h; unfold mapLoc; rw [mapLocF_nl xs h]; rfl
  | .exc c xs, h => by unfold nl at h; unfold mapLoc; rw [mapLocF_nl xs h]; rfl
  | .loc i, h => by unfold nl at h; unfold mapLoc; exact putBy_lt (of_decide_eq_true h) n
  | .non, _ => rfl
  | .bl _, _ => rfl
  | .int _, _ => rfl
  | .str _, _ => rfl
  | .ty _, _ => rfl
  | .set _, _ => rfl
  | .dic _, _ => rfl
  | .cls _, _ => rfl
  | .scr _, _ => rfl
theorem mapLocs_nl {m : Mu} {b n : Nat} : ∀ d : List D, nls b d = true → mapLocs (putBy m b n) d = some d
  | [], _ => rfl
  | x :: xs, h => by
    unfold nls at h
    rw [Bool.and_eq_true] at h
    unfold mapLocs
    rw [mapLoc_nl x h.1, Option.bind_some, mapLocs_nl xs h.2]; rfl
theorem mapLocF_nl {m : Mu} {b n : Nat} : ∀ d : List (Nat × D), nlF b d = true → mapLocF (putBy m b n) d = some d
  | [], _ => rfl
  | (k, x) :: xs, h => by
    unfold nlF at h
    rw [Bool.and_eq_true] at h
    unfold mapLocF
    rw [mapLoc_nl x h.1, Option.bind_some, mapLocF_nl xs h.2]; rfl
end
mutual
theorem nl_mono {b b' : Nat} (hb : b ≤ b') : ∀ d : D, nl b d = true → nl b' d = true
  | .tup xs, h => by unfold nl at h ⊢; exact nls_mono hb xs h
  | .lst xs, h => by unfold nl at h ⊢; exact nls_mono hb xs h
  | .ins c xs, h => by unfold nl at h ⊢; exact nlF_mono hb xs h
  | .exc c xs, h => by unfold nl at h ⊢; exact nlF_mono hb xs h
  | .loc i, h => by unfold nl at h ⊢; have := of_decide_eq_true h; exact decide_eq_true (by omega)
  | .non, _ => rfl
  | .bl _, _ => rfl
  | .int _, _ => rfl
  | .str _, _ => rfl
  | .ty _, _ => rfl
  | .set _, _ => rfl
  | .dic _, _ => rfl
  | .cls _, _ => rfl
  | .scr _, _ => rfl
theorem nls_mono {b b' : Nat} (hb : b ≤ b') : ∀ d : List D, nls b d = true → nls b' d = true
  | [], _ => rfl
  | x :: xs, h => by
    unfold nls at h ⊢
    rw [Bool.and_eq_true] at h ⊢
    exact ⟨nl_mono hb x h.1, nls_mono hb xs h.2⟩
theorem nlF_mono {b b' : Nat} (hb : b ≤ b') : ∀ d : List (Nat × D), nlF b d = true → nlF b' d = true
  | [], _ => rfl
  | (k, x) :: xs, h => by
    unfold nlF at h ⊢
    rw [Bool.and_eq_true] at h ⊢
    exact ⟨nl_mono hb x h.1, nlF_mono hb xs h.2⟩
end
theorem nls_all {b : Nat} : ∀ {xs : List D}, (∀ x ∈ xs, nl b x = true) → nls b xs = true
  | [], _ => rfl
  | x :: xs, h => by unfold nls; rw [h x (by simp), nls_all fun y hy => h y (by simp [hy])]; rfl
theorem nls_append {b : Nat} : ∀ {xs ys : List D}, nls b xs = true → nls b ys = true → nls b (xs ++ ys) = true
  | [], _, _, h => h
  | x :: xs, ys, h, h2 => by
    unfold nls at h
    rw [Bool.and_eq_true] at h
    rw [List.cons_append]
    unfold nls
    rw [h.1, nls_append h.2 h2]; rfl
theorem nls_strs {b : Nat} (l : List Str) : nls b (l.map .str) = true := nls_all fun x hx => by
  obtain ⟨y, _, rfl⟩ := List.mem_map.mp hx; rfl
/-- a store all of whose numbers are below b -/
def nlM (b : Nat) (m : Mu) : Prop := ∀ d, some d ∈ m → nl b d = true
theorem layM_nl {m : Mu} {b : Nat} : ∀ t : Mu, nlM b t → layM m b t = some t
  | [], _ => rfl
  | none :: t, h => by
    show (layO m b none).bind (fun x => (layM m b t).map (x :: ·)) = _
    rw [layM_nl t fun d hd => h d (by simp [hd])]; rfl
  | some o :: t, h => by
    show (layO m b (some o)).bind (fun x => (layM m b t).map (x :: ·)) = _
    rw [layM_nl t fun d hd => h d (by simp [hd])]
    show (((lay m b o).map some).bind fun x => (some t).map (x :: ·)) = _
    unfold lay
    rw [mapLoc_nl o (h o (by simp))]; rfl
theorem lay_nl {m : Mu} {b : Nat} {d : D} (h : nl b d = true) : lay m b d = some d := mapLoc_nl d h
/-- what stands at the next number -/
theorem lay_at {m : Mu} {b i : Nat} {d : D} (h1 : m[i]? = some (some d)) (hb : b ≤ i) (h : nl b d = true) : lay m b (.loc i) = some d := by
  show mapLoc (putBy m b 4) (.loc i) = _
  unfold mapLoc putBy
  rw [if_neg (by omega), h1]
  exact mapLoc_nl d h
theorem cut_app {m t : Mu} (h : nlM m.length m) : cut (m ++ t) m.length = some m := by
  unfold cut
  rw [List.take_left]
  exact layM_nl m h
theorem nlM_mono {b b' : Nat} {m : Mu} (hb : b ≤ b') (h : nlM b m) : nlM b' m := fun d hd => nl_mono hb d (h d hd)
theorem lv_cut {K : Sl → Mu → Prop} {s : Sl} {m t : Mu} (h : nlM m.length m) (q : K (if t.length = 0 then s else layS (m ++ t) m.length s) m) : Lv m.length s (m ++ t) K := by
  unfold Lv leave
  cases t with
  | nil =>
    simp only [List.append_nil, if_true]
    exact ⟨_, _, rfl, by simpa using q⟩
  | cons a t =>
    rw [if_neg (by simp), cut_app h]
    exact ⟨_, _, rfl, by simpa using q⟩
/-! ### a def -/
section
variable {P : Pr} {m : Mu} {Q : D → Mu → Prop} {X : Px}
/-- a def's end -/
@[irreducible] def WEnd (keep : Bool) (b : Nat) (v : D) (m : Mu) (Q : D → Mu → Prop) (X : Px) : Prop := Tr (endR keep b v m) Q X
@[irreducible] def WEndX (b c : Nat) (fs : List (Nat × D)) (m : Mu) (Q : D → Mu → Prop) (X : Px) : Prop := Tr (endX b c fs m) Q X
theorem wrun {n f : Nat} {as : List D} {d : Df} (h : P.df f = some d) (hl : as.length = d.ps.length)
    (q : WSs P (run P n) d.body (slots0 d as) m (fun _ m' => WEnd d.keep m.length .non m' Q X) (fun v m' => WEnd d.keep m.length v m' Q X) (fun _ _ => False) (fun _ _ => False) (fun c fs _ m' => WEndX m.length c fs m' Q X)) :
    WF (run P (n + 1)) f as m Q X := by
  unfold WSs WEnd WEndX at q
  unfold WF
  show Tr (match P.df f with
    | some d => if as.length = d.ps.length then runD d (evSs P (run P n) d.body (slots0 d as) m) m.length else .stuck
    | none => .stuck) Q X
  rw [h]
  simp only [hl, if_true]
  generalize evSs P (run P n) d.body (slots0 d as) m = r at q
  cases r with
  | ok f m => cases f <;> first | exact q | exact q.elim
  | exc c fs s m => exact q
  | stuck => exact q.elim
theorem wend {keep : Bool} {b : Nat} {v : D} (h : m.length = b) (q : Q v m) : WEnd keep b v m Q X := by
  unfold WEnd endR
  rw [if_pos h]; exact q
theorem wendx {b c : Nat} {fs : List (Nat × D)} (h : m.length = b) (q : X c fs m) : WEndX b c fs m Q X := by
  unfold WEndX endX
  rw [if_pos h]; exact q
/-- what was made within is let go -/
theorem wend_cut {t : Mu} {v w : D} (hm : nlM m.length m) (h : lay (m ++ t) m.length v = some w) (q : Q w m) (ht : t ≠ []) : WEnd false m.length v (m ++ t) Q X := by
  unfold WEnd endR
  rw [if_neg (by cases t <;> simp at ht ⊢)]
  simp only [Bool.false_eq_true, if_false, h, cut_app hm]
  exact q
theorem wendx_cut {t : Mu} {c : Nat} {fs : List (Nat × D)} (hm : nlM m.length m) (h : nlF m.length fs = true) (q : X c fs m) (ht : t ≠ []) : WEndX m.length c fs (m ++ t) Q X := by
  unfold WEndX endX
  rw [if_neg (by cases t <;> simp at ht ⊢), cut_app hm]
  unfold layF
  rw [mapLocF_nl fs h]
  exact q
theorem wf_mono {call : Cal} {f : Nat} {as : List D} {Q' : D → Mu → Prop} {X' : Px} (h : WF call f as m Q' X') (hq : ∀ a m, Q' a m → Q a m) (hx : ∀ c fs m, X' c fs m → X c fs m) : WF call f as m Q X := by
  unfold WF at h ⊢
  exact tr_mono h hq hx
theorem wf_q {call : Cal} {f : Nat} {as : List D} {Q' : D → Mu → Prop} (h : WF call f as m Q' (fun _ _ _ => False)) (hq : ∀ a m, Q' a m → Q a m) : WF call f as m Q X := wf_mono h hq fun _ _ _ h => h.elim
theorem wf_eq {call : Cal} {f : Nat} {as : List D} {v : D} {m' : Mu} (h : call f as m = .ok v m') (q : Q v m') : WF call f as m Q X := by
  unfold WF; exact tr_eq h q
theorem wf_get {call : Cal} {f : Nat} {as : List D} {v : D} {m' : Mu} (h : WF call f as m (fun a m => a = v ∧ m = m') (fun _ _ _ => False)) : call f as m = .ok v m' := by
  unfold WF at h
  obtain ⟨a, m1, e, rfl, rfl⟩ := tr_get h
  exact e
end
section
variable {P : Pr} {m : Mu} {Q : D → Mu → Prop} {X : Px}
theorem wrunK {n f : Nat} {as : List D} {ps : List Nat} {k : Nat} {body : List S} {dfl : List D} {keep : Bool} (s : Sl) (h : P.df f = some ⟨ps, k, body, dfl, keep⟩) (hl : as.length = ps.length) (hs : as.map some ++ List.replicate (k - as.length) none = s)
    (q : WSs P (run P n) body s m (fun _ m' => WEnd keep m.length .non m' Q X) (fun v m' => WEnd keep m.length v m' Q X) (fun _ _ => False) (fun _ _ => False) (fun c fs _ m' => WEndX m.length c fs m' Q X)) :
    WF (run P (n + 1)) f as m Q X := by
  subst hs
  exact wrun h hl q
theorem get_setM {i : Nat} {o : Option D} {d : D} (h : m[i]? = some o) : (setM m i d)[i]? = some (some d) := by
  unfold setM
  rw [List.getElem?_set]
  have := (List.getElem?_eq_some_iff.mp h).1
  simp [this]
theorem get_setM_ne {i j : Nat} {o : Option D} {d : D} (h : m[j]? = some o) (hn : i ≠ j) : (setM m i d)[j]? = some o := by
  unfold setM
  rw [List.getElem?_set, if_neg hn]; exact h
theorem len_setM {i : Nat} {d : D} : (setM m i d).length = m.length := by unfold setM; simp
theorem setM_setM {i : Nat} {d e : D} : setM (setM m i d) i e = setM m i e := by unfold setM; simp
theorem get_end {m : Mu} {o : Option D} : (m ++ [o])[m.length]? = some o := by simp
theorem setM_end {m : Mu} {o : Option D} {d : D} : setM (m ++ [o]) m.length d = m ++ [some d] := by unfold setM; simp
theorem setM_same {i : Nat} {d : D} (h : m[i]? = some (some d)) : setM m i d = m := by
  unfold setM
  apply List.ext_getElem?
  intro j
  rw [List.getElem?_set]
  split
  · rename_i e; subst e
    have := (List.getElem?_eq_some_iff.mp h).1
    rw [if_pos this, h]
  · rfl
theorem sqq_l {x : D} {xs : List D} (h : dr m x = .lst xs) : sq m x = some xs := by unfold sq; rw [h]
theorem sqq_t {x : D} {xs : List D} (h : dr m x = .tup xs) : sq m x = some xs := by unfold sq; rw [h]
theorem ixD_nat {xs : List D} {k : Nat} {v : D} (h : xs[k]? = some v) : ixD xs (k : Int) = some v := by
  have h1 := (List.getElem?_eq_some_iff.mp h).1
  unfold ixD ixAt
  rw [if_pos (by omega), if_pos (by omega)]
  simpa using h
end
/-! ### guards, loops, lists that grow -/
section
variable {P : Pr} {call : Cal} {s : Sl} {m : Mu} {Q : D → Mu → Prop} {X : Px}
theorem gE {e : E} (h : WE P call e s m Q X) : WE P call e s m Q X := h
theorem gL {e : List E} {Q : List D → Mu → Prop} (h : WL P call e s m Q X) : WL P call e s m Q X := h
theorem gO {e : Option E} {Q : Option Int → Mu → Prop} (h : WO P call e s m Q X) : WO P call e s m Q X := h
theorem gC {o : Cm} {x y : D} (h : WCmp P call o x y m Q X) : WCmp P call o x y m Q X := h
theorem gO2 {o : Op2} {x y : D} (h : WO2 o m x y Q X) : WO2 o m x y Q X := h
theorem gIf {b : Bool} {T F : Prop} (h : Wif b T F) : Wif b T F := h
theorem gT {x : D} {T F : Mu → Prop} (h : WT P call x m T F X) : WT P call x m T F X := h
variable {N : Sl → Mu → Prop} {R : D → Mu → Prop} {B C : Sl → Mu → Prop} {Xs : Ps}
theorem gS {e : S} (h : WS P call e s m N R B C Xs) : WS P call e s m N R B C Xs := h
theorem gSs {e : List S} (h : WSs P call e s m N R B C Xs) : WSs P call e s m N R B C Xs := h
@[irreducible] def WFor (P : Pr) (call : Cal) (b : Nat) (t : Tg) (body : List S) (ds : List D) (s : Sl) (m : Mu) (N : Sl → Mu → Prop) (R : D → Mu → Prop) (B C : Sl → Mu → Prop) (X : Ps) : Prop :=
  Ts (forL b (fun d s m => match asgT m t d s with
    | some s => evSs P call body s m
    | none => .stuck) ds s m) N R B C X
theorem ws_forW {t : Tg} {it : It} {b : List S} (q : WI P call it s m (fun ds m => WFor P call m.length t b ds s m N R B C Xs) (fun c fs m => Xs c fs s m)) : WS P call (.for_ t it b) s m N R B C Xs := by
  unfold WI at q
  unfold WFor at q
  unfold WS evS
  exact ts_to q
theorem wfor_nil {b : Nat} {t : Tg} {body : List S} (q : N s m) : WFor P call b t body [] s m N R B C Xs := by
  unfold WFor; exact q
theorem wfor_consb {b : Nat} {t : Tg} {body : List S} {d : D} {ds : List D} {s' : Sl} (h : asgT m t d s = some s') (q : WSs P call body s' m (fun s m => Lv b s m (fun s m => WFor P call b t body ds s m N R B C Xs)) R N (fun s m => Lv b s m (fun s m => WFor P call b t body ds s m N R B C Xs)) Xs) : WFor P call b t body (d :: ds) s m N R B C Xs := by
  unfold WSs at q
  unfold WFor at q ⊢
  unfold forL
  rw [h]
  simp only []
  generalize evSs P call body s' m = r at q
  cases r with
  | ok f m =>
    cases f with
    | nxt s =>
      have q : Lv b s m (fun s m => Ts (forL b _ ds s m) N R B C Xs) := q
      unfold Lv at q
      obtain ⟨s', m', e, q⟩ := q
      simp only [e]
      exact q
    | cnt s =>
      have q : Lv b s m (fun s m => Ts (forL b _ ds s m) N R B C Xs) := q
      unfold Lv at q
      obtain ⟨s', m', e, q⟩ := q
      simp only [e]
      exact q
    | brk s => exact q
    | ret v => exact q
  | exc c fs s m => exact q
  | stuck => exact q.elim
theorem wss_mono {ts : List S} {N' : Sl → Mu → Prop} {R' : D → Mu → Prop} {B' C' : Sl → Mu → Prop} {Xs' : Ps} (h : WSs P call ts s m N' R' B' C' Xs') (hn : ∀ s m, N' s m → N s m) (hr : ∀ s m, R' s m → R s m) (hb : ∀ s m, B' s m → B s m) (hc : ∀ s m, C' s m → C s m) (hx : ∀ c fs s m, Xs' c fs s m → Xs c fs s m) : WSs P call ts s m N R B C Xs := by
  unfold WSs at h ⊢
  generalize evSs P call ts s m = r at h
  cases r with
  | ok f m => cases f <;> first | exact hn _ _ h | exact hr _ _ h | exact hb _ _ h | exact hc _ _ h
  | exc c fs s m => exact hx _ _ _ _ h
  | stuck => exact h
theorem wfor_cons {b : Nat} {t : Tg} {body : List S} {d : D} {ds : List D} {s' : Sl} (h : asgT m t d s = some s') (q : WSs P call body s' m (fun s m => Lv b s m (fun s m => WFor P call b t body ds s m N R B C Xs)) R (fun _ _ => False) (fun _ _ => False) Xs) : WFor P call b t body (d :: ds) s m N R B C Xs :=
  wfor_consb h (wss_mono q (fun _ _ h => h) (fun _ _ h => h) (fun _ _ h => h.elim) (fun _ _ h => h.elim) fun _ _ _ _ h => h)
theorem wfor_inv {b : Nat} {t : Tg} {body : List S} {ds : List D} (I : List D → Sl → Mu → Prop) (i : I ds s m) (he : ∀ s m, I [] s m → N s m)
    (q : ∀ d ds s m, I (d :: ds) s m → ∃ s', asgT m t d s = some s' ∧ WSs P call body s' m (fun s m => Lv b s m (I ds)) R N (fun s m => Lv b s m (I ds)) Xs) : WFor P call b t body ds s m N R B C Xs := by
  unfold WFor
  refine forL_ok I (fun d ds s m' i => ?_) he ds s m i
  obtain ⟨s', e, q⟩ := q d ds s m' i
  unfold WSs at q
  rw [e]
  exact q
theorem dr_end {o : D} : dr (m ++ [some o]) (.loc m.length) = o := dr_loc _ get_end
theorem wbm_app {i : Nat} {xs : List D} {a : D} (h : m[i]? = some (some (.lst xs))) (hl : xs.length ≤ 1000000) (q : Q .non (setM m i (.lst (xs ++ [a])))) : WBm .append (.loc i) m [a] Q X := by
  refine wbm (v := .non) (m' := setM m i (.lst (xs ++ [a]))) ?_ q
  show appD (.loc i) m [a] = _
  unfold appD
  simp only [h]
  unfold big
  rw [decide_eq_true hl]; rfl
theorem wbm_appE {xs : List D} {a : D} (hl : xs.length ≤ 1000000) (q : Q .non (m ++ [some (.lst (xs ++ [a]))])) : WBm .append (.loc m.length) (m ++ [some (.lst xs)]) [a] Q X := by
  refine wbm_app get_end hl ?_
  rw [setM_end]; exact q
theorem wbm_ext {i : Nat} {xs ys : List D} {a : D} (h : m[i]? = some (some (.lst xs))) (h2 : dr m a = .lst ys) (hl : xs.length + ys.length ≤ 1000000) (q : Q .non (setM m i (.lst (xs ++ ys)))) : WBm .extend (.loc i) m [a] Q X := by
  refine wbm (v := .non) (m' := setM m i (.lst (xs ++ ys))) ?_ q
  show extD (.loc i) m [a] = _
  unfold extD
  simp only [h, h2]
  unfold big
  rw [decide_eq_true hl]; rfl
theorem wbm_extE {xs ys : List D} (hl : xs.length + ys.length ≤ 1000000) (q : Q .non (m ++ [some (.lst (xs ++ ys))])) : WBm .extend (.loc m.length) (m ++ [some (.lst xs)]) [.lst ys] Q X := by
  refine wbm_ext get_end rfl hl ?_
  rw [setM_end]; exact q
theorem wbm_pop {i : Nat} {xs : List D} {y : D} (h : m[i]? = some (some (.lst (xs ++ [y])))) (q : Q y (setM m i (.lst xs))) : WBm .pop (.loc i) m [] Q X := by
  refine wbm (v := y) (m' := setM m i (.lst xs)) ?_ q
  show popD (.loc i) m [] = _
  unfold popD
  simp [h]
theorem wbm_popE {xs : List D} {y : D} (q : Q y (m ++ [some (.lst xs)])) : WBm .pop (.loc m.length) (m ++ [some (.lst (xs ++ [y]))]) [] Q X := by
  refine wbm_pop get_end ?_
  rw [setM_end]; exact q
theorem lv_app {b : Nat} {x : D} {K : Sl → Mu → Prop} (q : K s (m ++ [some x])) {y : D} (hb : (m ++ [some y]).length = b) : Lv b s (m ++ [some x]) K := lv_eq (by rw [← hb]; simp) q
end
section
variable {P : Pr} {call : Cal} {s : Sl} {m : Mu} {Q : D → Mu → Prop} {X : Px}
theorem gMeth {x : D} {n : Nat} {K : Nat → Prop} (h : WMeth P x n m K) : WMeth P x n m K := h
theorem gFld {x : D} {n : Nat} (h : WFld P call n x m Q X) : WFld P call n x m Q X := h
theorem gIx {x y : D} (h : WIx x y m Q X) : WIx x y m Q X := h
theorem gBi {f : Bi} {k : Bool} {vs : List D} (h : WBi f k m vs Q X) : WBi f k m vs Q X := h
theorem gBm {f : Bm} {x : D} {vs : List D} (h : WBm f x m vs Q X) : WBm f x m vs Q X := h
theorem gAsgF {x d : D} {f : Nat} {N : Sl → Mu → Prop} (h : WAsgF P x f d s m N) : WAsgF P x f d s m N := h
theorem gAsgS {x y d : D} {N : Sl → Mu → Prop} (h : WAsgS x y d s m N) : WAsgS x y d s m N := h
theorem gBmT {f : Bm} {x : D} {T : Prop} (h : WBmT f x m T) : WBmT f x m T := h
theorem gSlc {x : D} {l k : Option Int} (h : WSlc x l k m Q X) : WSlc x l k m Q X := h
theorem gRev {x : D} (h : WRev x m Q) : WRev x m Q := h
theorem gLv {b : Nat} {K : Sl → Mu → Prop} (h : Lv b s m K) : Lv b s m K := h
theorem gEnd {k : Bool} {b : Nat} {v : D} (h : WEnd k b v m Q X) : WEnd k b v m Q X := h
theorem gEndX {b c : Nat} {fs : List (Nat × D)} (h : WEndX b c fs m Q X) : WEndX b c fs m Q X := h
theorem wix_l {x v : D} {xs : List D} {j : Int} (h : dr m x = .lst xs) (h2 : ixD xs j = some v) (q : Q v m) : WIx x (.int j) m Q X := wix (sqq_l h) h2 q
theorem wix_t {x v : D} {xs : List D} {j : Int} (h : dr m x = .tup xs) (h2 : ixD xs j = some v) (q : Q v m) : WIx x (.int j) m Q X := wix (sqq_t h) h2 q
theorem wbi_lenl {k : Bool} {x : D} {xs : List D} (h : dr m x = .lst xs) (q : Q (.int xs.length) m) : WBi .len k m [x] Q X := wbi_len (sqq_l h) q
end
theorem nlM_push {m : Mu} {d : D} (hm : nlM m.length m) (hd : nl (m.length + 1) d = true) : nlM (m ++ [some d]).length (m ++ [some d]) := fun x hx => by
  rw [List.length_append, List.length_singleton]
  rcases List.mem_append.mp hx with h | h
  · exact nl_mono (by omega) x (hm x h)
  · have e : x = d := by simpa using h
    subst e
    exact hd
theorem nlM_setM {m : Mu} {i : Nat} {d : D} (hm : nlM m.length m) (hd : nl m.length d = true) : nlM (setM m i d).length (setM m i d) := fun x hx => by
  rw [len_setM]
  unfold setM at hx
  rcases List.mem_or_eq_of_mem_set hx with h | h
  · exact hm x h
  · cases h; exact hd
theorem nlM_nil : nlM 0 [] := fun _ h => nomatch h
theorem nls_str1 {b : Nat} {x : Str} : nls b [.str x] = true := rfl
theorem nl_lst {b : Nat} {xs : List D} (h : nls b xs = true) : nl b (.lst xs) = true := by unfold nl; exact h
theorem nl_tup {b : Nat} {xs : List D} (h : nls b xs = true) : nl b (.tup xs) = true := by unfold nl; exact h
def valOf : Res D → D
  | .ok v _ => v
  | _ => .non
def valsOf : Res D → List D
  | .ok (.lst vs) _ => vs
  | .ok (.tup vs) _ => vs
  | _ => []
theorem wasgfE {P : Pr} {s : Sl} {m : Mu} {N : Sl → Mu → Prop} {c f : Nat} {d : D} {fs : List (Nat × D)} (h2 : (P.cls c && (P.fld c f && decide (fs.length < 1000))) = true) (q : N s (m ++ [some (.ins c (setF f d fs))])) : WAsgF P (.loc m.length) f d s (m ++ [some (.ins c fs)]) N := by
  refine wasgf get_end h2 ?_
  rw [setM_end]; exact q
theorem dr_end' {m : Mu} {o v : D} (h : o = v) : dr (m ++ [some o]) (.loc m.length) = v := by subst h; exact dr_end
theorem get_end' {m : Mu} {o v : D} (h : o = v) : (m ++ [some o])[m.length]? = some (some v) := by subst h; exact get_end
theorem reprD_int {m : Mu} {i : Int} (h1 : -(2 ^ 1900) < i) (h2 : i < 2 ^ 1900) : reprD m [.int i] = .ok (.str (toString i)) m := by
  unfold reprD
  simp only [h1, h2, decide_true, Bool.and_self, Res.when_true]
theorem strD_int {m : Mu} {i : Int} (h1 : -(2 ^ 1900) < i) (h2 : i < 2 ^ 1900) : strD m [.int i] = .ok (.str (toString i)) m := by
  unfold strD
  simp only [h1, h2, decide_true, Bool.and_self, Res.when_true]
theorem bound_1900 : (1000000000 : Int) < 2 ^ 1900 := by decide +kernel
theorem wbi_repri {m : Mu} {k : Bool} {i : Int} {Q : D → Mu → Prop} {X : Px} (h1 : -1000000000 ≤ i) (h2 : i ≤ 1000000000) (q : Q (.str (toString i)) m) : WBi .repr k m [.int i] Q X := by
  have h3 := bound_1900
  refine wbi (v := .str (toString i)) (m' := m) ?_ q
  show reprD m [.int i] = _
  generalize hb : (2 : Int) ^ 1900 = b at h3
  exact reprD_int (by rw [hb]; omega) (by rw [hb]; omega)
theorem wbi_reprb {m : Mu} {k b : Bool} {Q : D → Mu → Prop} {X : Px} (q : Q (.str (if b then "True" else "False")) m) : WBi .repr k m [.bl b] Q X := wbi (v := .str (if b then "True" else "False")) (m' := m) rfl q
theorem wstr_i {P : Pr} {call : Cal} {m : Mu} {i : Int} {Q : D → Mu → Prop} {X : Px} (h1 : -1000000000 ≤ i) (h2 : i ≤ 1000000000) (q : Q (.str (toString i)) m) : WStr P call (.int i) m Q X := by
  have h3 := bound_1900
  unfold WStr
  simp only [dr_int]
  refine tr_eq (a := .str (toString i)) (m := m) ?_ q
  show strD m [.int i] = _
  generalize hb : (2 : Int) ^ 1900 = b at h3
  exact strD_int (by rw [hb]; omega) (by rw [hb]; omega)
/-! ### data, compared -/
theorem toPys_map {α : Type} {m : Mu} {k : Nat} {f : α → D} {g : α → PyData} (h : ∀ x, toPy m k (f x) = some (g x)) : ∀ l : List α, toPys (toPy m k) (l.map f) = some (l.map g)
  | [] => rfl
  | x :: l => by
    show (toPy m k (f x)).bind (fun p => (toPys (toPy m k) (l.map f)).map (p :: ·)) = _
    rw [h, toPys_map h l]; rfl
theorem eqvAll_map {α : Type} [DecidableEq α] {g : α → PyData} (h : ∀ x y, PyData.eqv (g x) (g y) = decide (x = y)) : ∀ l k : List α, PyData.eqvAll (l.map g) (k.map g) = decide (l = k)
  | [], [] => rfl
  | [], y :: k => by simp [PyData.eqvAll]
  | x :: l, [] => by simp [PyData.eqvAll]
  | x :: l, y :: k => by
    show (PyData.eqv (g x) (g y) && PyData.eqvAll (l.map g) (k.map g)) = _
    rw [h, eqvAll_map h l k]
    by_cases h1 : x = y <;> by_cases h2 : l = k <;> simp [h1, h2]
theorem eqv_str (x y : Str) : PyData.eqv (.str x) (.str y) = decide (x = y) := by
  show (x == y) = _
  by_cases h : x = y <;> simp [h]
theorem eqv_int (x y : Int) : PyData.eqv (.int x) (.int y) = decide (x = y) := by
  show (x == y) = _
  by_cases h : x = y <;> simp [h]
theorem eqv_bl (x y : Bool) : PyData.eqv (.bool x) (.bool y) = (x == y) := rfl
theorem eqD_tup {α : Type} [DecidableEq α] {m : Mu} {f : α → D} {g : α → PyData} (h : ∀ x, toPy m 59 (f x) = some (g x)) (h2 : ∀ x y, PyData.eqv (g x) (g y) = decide (x = y)) (l k : List α) : eqD m (.tup (l.map f)) (.tup (k.map f)) = some (decide (l = k)) := by
  have h1 : ∀ l : List α, pyD m (.tup (l.map f)) = some (.tuple (l.map g)) := fun l => by
    show (toPys (toPy m 59) (l.map f)).map PyData.tuple = _
    rw [toPys_map h]; rfl
  unfold eqD
  rw [h1, h1]
  show some (PyData.eqvAll (l.map g) (k.map g)) = _
  rw [eqvAll_map h2]
theorem eqD_lst {α : Type} [DecidableEq α] {m : Mu} {f : α → D} {g : α → PyData} (h : ∀ x, toPy m 59 (f x) = some (g x)) (h2 : ∀ x y, PyData.eqv (g x) (g y) = decide (x = y)) (l k : List α) : eqD m (.lst (l.map f)) (.lst (k.map f)) = some (decide (l = k)) := by
  have h1 : ∀ l : List α, pyD m (.lst (l.map f)) = some (.list (l.map g)) := fun l => by
    show (toPys (toPy m 59) (l.map f)).map PyData.list = _
    rw [toPys_map h]; rfl
  unfold eqD
  rw [h1, h1]
  show some (PyData.eqvAll (l.map g) (k.map g)) = _
  rw [eqvAll_map h2]
theorem eq_strs (m : Mu) (l k : List Str) : eqD m (.tup (l.map .str)) (.tup (k.map .str)) = some (decide (l = k)) := eqD_tup (fun _ => rfl) eqv_str l k
theorem eq_lsts (m : Mu) (l k : List Str) : eqD m (.lst (l.map .str)) (.lst (k.map .str)) = some (decide (l = k)) := eqD_lst (fun _ => rfl) eqv_str l k
theorem wcmp_eqb {P : Pr} {call : Cal} {m : Mu} {x y : Bool} {Q : D → Mu → Prop} {X : Px} (q : Q (.bl (x == y)) m) : WCmp P call .eq (.bl x) (.bl y) m Q X := wcmp_eqd (fun _ _ h => nomatch h) (fun _ _ h => nomatch h) rfl q
theorem wcmp_neb {P : Pr} {call : Cal} {m : Mu} {x y : Bool} {Q : D → Mu → Prop} {X : Px} (q : Q (.bl (!(x == y))) m) : WCmp P call .ne (.bl x) (.bl y) m Q X := wcmp_ned (fun _ _ h => nomatch h) (fun _ _ h => nomatch h) rfl q
/-! ### ways joined -/
section
variable {P : Pr} {call : Cal} {s : Sl} {m : Mu} {N : Sl → Mu → Prop} {R : D → Mu → Prop} {B C : Sl → Mu → Prop} {X : Ps}
theorem ws_cut {t : S} (J : Sl → Mu → Prop) (h : WS P call t s m J R B C X) (q : ∀ s m, J s m → N s m) : WS P call t s m N R B C X := by
  unfold WS at h ⊢
  generalize evS P call t s m = r at h
  cases r with
  | ok f m => cases f <;> first | exact q _ _ h | exact h
  | exc c fs s m => exact h
  | stuck => exact h
theorem wss_cut {t : List S} (J : Sl → Mu → Prop) (h : WSs P call t s m J R B C X) (q : ∀ s m, J s m → N s m) : WSs P call t s m N R B C X :=
  wss_mono h q (fun _ _ h => h) (fun _ _ h => h) (fun _ _ h => h) fun _ _ _ _ h => h
theorem wif_cut {b : Bool} {t u : List S} (J : Sl → Mu → Prop) (h : b = true → WSs P call t s m J R B C X) (h2 : b = false → WSs P call u s m J R B C X) (q : ∀ s m, J s m → N s m) : Wif b (WSs P call t s m N R B C X) (WSs P call u s m N R B C X) :=
  wif_b (fun e => wss_cut J (h e) q) fun e => wss_cut J (h2 e) q
theorem we_cut {e : E} {Q : D → Mu → Prop} {X : Px} (J : D → Mu → Prop) (h : WE P call e s m J X) (q : ∀ v m, J v m → Q v m) : WE P call e s m Q X := by
  unfold WE at h ⊢
  exact tr_mono h q fun _ _ _ h => h
/-- both tests, whatever comes out -/
theorem we_andp {a b : E} {x y : Bool} {Q : D → Mu → Prop} {X : Px} (h : WE P call a s m (fun v m' => v = .bl x ∧ m' = m) (fun _ _ _ => False)) (h2 : WE P call b s m (fun v m' => v = .bl y ∧ m' = m) (fun _ _ _ => False)) (q : Q (.bl (x && y)) m) : WE P call (.and a b) s m Q X := by
  refine we_and ?_
  unfold WE at h h2 ⊢
  refine tr_mono h (fun v m' hv => ?_) fun _ _ _ h => h.elim
  obtain ⟨rfl, rfl⟩ := hv
  refine wand_bl (wif_b (fun e => ?_) fun e => ?_)
  · subst e
    exact tr_mono h2 (fun v m' hv => by obtain ⟨rfl, rfl⟩ := hv; exact q) fun _ _ _ h => h.elim
  · subst e; exact q
theorem we_orp {a b : E} {x y : Bool} {Q : D → Mu → Prop} {X : Px} (h : WE P call a s m (fun v m' => v = .bl x ∧ m' = m) (fun _ _ _ => False)) (h2 : WE P call b s m (fun v m' => v = .bl y ∧ m' = m) (fun _ _ _ => False)) (q : Q (.bl (x || y)) m) : WE P call (.or a b) s m Q X := by
  refine we_or ?_
  unfold WE at h h2 ⊢
  refine tr_mono h (fun v m' hv => ?_) fun _ _ _ h => h.elim
  obtain ⟨rfl, rfl⟩ := hv
  refine wor_bl (wif_b (fun e => ?_) fun e => ?_)
  · subst e; exact q
  · subst e
    exact tr_mono h2 (fun v m' hv => by obtain ⟨rfl, rfl⟩ := hv; exact q) fun _ _ _ h => h.elim
end
end Pv

set_option Elab.async false
set_option linter.all false
set_option autoImplicit false
set_option maxRecDepth 100000
set_option maxHeartbeats 0
/-! printed by pv.py -/
namespace Lw
open PySem PySem.Spec PyProof.Rows L2 He Pv
def top (i : Nat) : Stmt := PySem.Challenge.pw_thincoins_k52_questions_told_and_joined.main.body.getD i (.Pass ⟨0, 0, 0, 0⟩)
def d0 : Df := { ps := [4, 5], slots := 2, body := [.ite (.not (.isi (.var 1) [.bty "str"])) [.raise 3 [.int 0, .int 0]] [], .asg (.fld (.var 0) 2) (.bm (.var 1) .split [.str " "]), .asg (.fld (.var 0) 3) (.int 0)], dfl := [], keep := false }  -- Scan.__init__
abbrev N0 : List Str := ["self", "text"]
def d1 : Df := { ps := [4], slots := 1, body := [.ret (.cmp (.fld (.var 0) 3) .eq (.bi .len false [.fld (.var 0) 2]))], dfl := [], keep := false }  -- Scan.is_done
abbrev N1 : List Str := ["self"]
def d2 : Df := { ps := [4], slots := 1, body := [.ret (.ite (.meth (.var 0) 6 [] [] []) (.non) (.ix (.fld (.var 0) 2) (.fld (.var 0) 3)))], dfl := [], keep := false }  -- Scan.ahead
abbrev N2 : List Str := ["self"]
def d3 : Df := { ps := [4], slots := 1, body := [.raise 3 [.int 0, .fld (.var 0) 3]], dfl := [], keep := false }  -- Scan.refuse
abbrev N3 : List Str := ["self"]
def d4 : Df := { ps := [4], slots := 1, body := [.ite (.meth (.var 0) 6 [] [] []) [.ex (.meth (.var 0) 7 [] [] [])] [], .asg (.fld (.var 0) 3) (.bin .add (.fld (.var 0) 3) (.int 1)), .ret (.ix (.fld (.var 0) 2) (.bin .sub (.fld (.var 0) 3) (.int 1)))], dfl := [], keep := false }  -- Scan.take
abbrev N4 : List Str := ["self"]
def d5 : Df := { ps := [4, 10], slots := 2, body := [.ite (.or (.meth (.var 0) 6 [] [] []) (.cmp (.meth (.var 0) 8 [] [] []) .notin (.var 1))) [.ex (.meth (.var 0) 7 [] [] [])] [], .ret (.meth (.var 0) 9 [] [] [])], dfl := [], keep := false }  -- Scan.take_one_of
abbrev N5 : List Str := ["self", "wanted"]
def d6 : Df := { ps := [4], slots := 1, body := [.ite (.not (.meth (.var 0) 6 [] [] [])) [.ex (.meth (.var 0) 7 [] [] [])] []], dfl := [], keep := false }  -- Scan.finish
abbrev N6 : List Str := ["self"]
def d7 : Df := { ps := [12, 11], slots := 2, body := [.ite (.not (.isi (.var 0) [.cls 5])) [.raise 1 [.var 1]] []], dfl := [.str "question"], keep := false }  -- need_question
abbrev N7 : List Str := ["value", "part"]
def d8 : Df := { ps := [14, 15], slots := 6, body := [.asg (.t (.v 2)) (.meth (.var 0) 8 [] [] []), .asg (.t (.v 3)) (.bm (.glo 0) .get [.var 2, .glo 1]), .ite (.cmp (.bin .add (.bin .add (.bin .add (.fld (.var 0) 3) (.int 1)) (.var 3)) (.var 1)) .gt (.glo 1)) [.ex (.meth (.var 0) 7 [] [] [])] [], .ex (.meth (.var 0) 9 [] [] []), .ite (.cmp (.var 2) .in_ (.glo 2)) [.asg (.t (.v 4)) (.meth (.var 0) 13 [.glo 3] [] []), .ret (.tup [.var 2, .var 4, .meth (.var 0) 13 [.glo 3] [] []])] [], .ite (.cmp (.var 2) .in_ (.glo 4)) [.asg (.t (.v 5)) (.meth (.var 0) 13 [.glo 3] [] []), .ret (.tup [.var 2, .var 5, .call 8 [.var 0, .var 1] [] []])] [], .ite (.cmp (.var 2) .in_ (.glo 5)) [.asg (.t (.v 4)) (.call 8 [.var 0, .bin .add (.var 1) (.glo 6)] [] []), .ret (.tup [.var 2, .var 4, .call 8 [.var 0, .var 1] [] []])] [], .ret (.tup [.var 2, .call 8 [.var 0, .var 1] [] []])], dfl := [], keep := false }  -- take_root
abbrev N8 : List Str := ["scan", "behind", "word", "needed", "one", "name"]
def d9 : Df := { ps := [16], slots := 3, body := [.asg (.t (.v 1)) (.lst true []), .for_ (.v 2) (.seq (.var 0)) [.ite (.isi (.var 2) [.bty "str"]) [.ex (.bm (.var 1) .append [.var 2])] [.ex (.bm (.var 1) .extend [.call 9 [.var 2] [] []])]], .ret (.var 1)], dfl := [], keep := false }  -- items_of
abbrev N9 : List Str := ["root", "found", "part"]
def d10 : Df := { ps := [16], slots := 3, body := [.ite (.cmp (.ix (.var 0) (.int 0)) .in_ (.glo 2)) [.ret (.bi .list false [.slc (.var 0) (some (.int 1)) (none)])] [], .ite (.cmp (.ix (.var 0) (.int 0)) .in_ (.glo 4)) [.ret (.comp false (.var 1) (.v 1) (.seq (.call 10 [.ix (.var 0) (.int 2)] [] [])) [.cmp (.var 1) .ne (.ix (.var 0) (.int 1))])] [], .ret (.comp2 false (.var 1) (.v 2) (.seq (.slc (.var 0) (some (.int 1)) (none))) [] (.v 1) (.seq (.call 10 [.var 2] [] [])) [])], dfl := [], keep := false }  -- free_of
abbrev N10 : List Str := ["root", "name", "part"]
def d11 : Df := { ps := [16], slots := 2, body := [.ite (.cmp (.ix (.var 0) (.int 0)) .in_ (.glo 2)) [.ret (.int 0)] [], .ite (.cmp (.ix (.var 0) (.int 0)) .in_ (.glo 4)) [.ret (.bin .add (.int 1) (.call 11 [.ix (.var 0) (.int 2)] [] []))] [], .ret (.bi .max false [.comp false (.call 11 [.var 1] [] []) (.v 1) (.seq (.slc (.var 0) (some (.int 1)) (none))) []])], dfl := [], keep := false }  -- looks_of
abbrev N11 : List Str := ["root", "part"]
def d12 : Df := { ps := [4, 16], slots := 3, body := [.asg (.t (.v 2)) (.call 9 [.var 1] [] []), .ite (.cmp (.bi .len false [.var 2]) .gt (.glo 1)) [.raise 2 [.str "items", .glo 1]] [], .asg (.fld (.var 0) 16) (.var 1), .asg (.fld (.var 0) 5) (.bm (.str " ") .join [.var 2]), .asg (.fld (.var 0) 19) (.bi .tuple false [.bi .sorted false [.bi .set false [.call 10 [.var 1] [] []]]]), .asg (.fld (.var 0) 20) (.call 11 [.var 1] [] []), .asg (.fld (.var 0) 21) (.cmp (.fld (.var 0) 19) .eq (.tup []))], dfl := [], keep := false }  -- Question.__init__
abbrev N12 : List Str := ["self", "root", "items"]
def d13 : Df := { ps := [5], slots := 3, body := [.asg (.t (.v 1)) (.new 4 [.var 0] [] []), .asg (.t (.v 2)) (.call 8 [.var 1, .int 0] [] []), .ex (.meth (.var 1) 22 [] [] []), .ret (.new 5 [.var 2] [] [])], dfl := [], keep := false }  -- Question.read
abbrev N13 : List Str := ["text", "scan", "root"]
def d14 : Df := { ps := [4], slots := 1, body := [.ret (.new 5 [.tup [.glo 7, .fld (.var 0) 16]] [] [])], dfl := [], keep := false }  -- Question.negated
abbrev N14 : List Str := ["self"]
def d15 : Df := { ps := [4, 23], slots := 2, body := [.ex (.call 7 [.var 1, .str "other"] [] []), .ret (.new 5 [.tup [.str "and", .fld (.var 0) 16, .fld (.var 1) 16]] [] [])], dfl := [], keep := false }  -- Question.both
abbrev N15 : List Str := ["self", "other"]
def d16 : Df := { ps := [4, 23], slots := 2, body := [.ex (.call 7 [.var 1, .str "other"] [] []), .ret (.new 5 [.tup [.str "or", .fld (.var 0) 16, .fld (.var 1) 16]] [] [])], dfl := [], keep := false }  -- Question.either
abbrev N16 : List Str := ["self", "other"]
def d17 : Df := { ps := [4, 23], slots := 2, body := [.ret (.and (.isi (.var 1) [.cls 5]) (.cmp (.fld (.var 0) 5) .eq (.fld (.var 1) 5)))], dfl := [], keep := false }  -- Question.__eq__
abbrev N17 : List Str := ["self", "other"]
def d18 : Df := { ps := [4], slots := 1, body := [.ret (.strI (.fld (.var 0) 5))], dfl := [], keep := false }  -- Question.__str__
abbrev N18 : List Str := ["self"]
def d19 : Df := { ps := [24], slots := 2, body := [.ret (.lst true [.comp false (.bi .int false [.var 1]) (.v 1) (.seq (.slc (.var 0) (none) (some (.int 63)))) [], .int 0, .int 0])], dfl := [], keep := true }  -- _law_pen
abbrev N19 : List Str := ["_law_script", "_law_cell"]
def d20 : Df := { ps := [25, 26], slots := 6, body := [.asg (.t (.v 2)) (.bi .int false [.ix (.var 0) (.int 2)]), .ite (.cmp (.var 2) .gt (.int 0)) [.asg (.sub (.var 0) (.int 2)) (.bin .fdiv (.var 2) (.var 1)), .ret (.bin .mod (.var 2) (.var 1))] [], .asg (.t (.v 3)) (.ix (.var 0) (.int 1)), .asg (.sub (.var 0) (.int 1)) (.bin .add (.var 3) (.int 1)), .asg (.t (.v 4)) (.bin .add (.bin .mul (.int 70201) (.var 3)) (.int 5009)), .ite (.cmp (.ix (.var 0) (.int 0)) .ne (.lst false [])) [.asg (.t (.v 4)) (.ix (.ix (.var 0) (.int 0)) (.bin .mod (.bi .int false [.var 3]) (.bi .len false [.ix (.var 0) (.int 0)])))] [], .ite (.and (.cmp (.var 3) .lt (.bi .len false [.ix (.var 0) (.int 0)])) (.cmp (.bi .abs false [.var 4]) .ge (.bin .pow (.int 10) (.int 18)))) [.asg (.t (.v 2)) (.bin .add (.bin .mul (.int 2) (.bin .sub (.bi .abs false [.var 4]) (.bin .pow (.int 10) (.int 18)))) (.bi .int false [.cmp (.var 4) .lt (.int 0)])), .asg (.sub (.var 0) (.int 2)) (.bin .fdiv (.var 2) (.var 1)), .ret (.bin .mod (.var 2) (.var 1))] [], .asg (.t (.v 5)) (.bin .mod (.bi .int false [.bin .pow (.bin .add (.bin .add (.bin .mod (.bi .int false [.var 4]) (.int 2147483587)) (.bin .mul (.int 88007) (.var 3))) (.int 5009)) (.int 5)]) (.int 2147483629)), .asg (.t (.v 5)) (.bin .mod (.bi .int false [.bin .pow (.bin .add (.bin .add (.bin .mul (.var 5) (.bin .add (.bin .mul (.int 2) (.var 3)) (.int 390))) (.bin .mul (.bin .mul (.int 88007) (.var 3)) (.var 3))) (.int 70201)) (.int 3)]) (.int 2147483563)), .ret (.bin .mod (.bi .int false [.bin .fdiv (.var 5) (.int 128)]) (.var 1))], dfl := [], keep := false }  -- _law_draw
abbrev N20 : List Str := ["_law_pen_here", "_law_many", "_law_rest", "_law_at", "_law_cell", "_law_mixed"]
def d21 : Df := { ps := [25, 27], slots := 2, body := [.ret (.ix (.var 1) (.call 20 [.var 0, .bi .len false [.var 1]] [] []))], dfl := [], keep := false }  -- _law_one_of
abbrev N21 : List Str := ["_law_pen_here", "_law_some"]
def d22 : Df := { ps := [25], slots := 1, body := [.ret (.call 21 [.var 0, .lst false [.str "x", .str "y", .str "z"]] [] [])], dfl := [], keep := false }  -- _law_letter
abbrev N22 : List Str := ["_law_pen_here"]
def d23 : Df := { ps := [25, 28, 29], slots := 6, body := [.asg (.t (.v 3)) (.lst false [.str "tied", .str "same"]), .ite (.cmp (.var 1) .gt (.int 3)) [.asg (.t (.v 3)) (.bin .add (.var 3) (.lst false [.str "not"]))] [], .ite (.and (.cmp (.var 1) .gt (.int 4)) (.cmp (.var 2) .gt (.int 0))) [.asg (.t (.v 3)) (.bin .add (.var 3) (.lst false [.str "some", .str "all", .str "all", .str "some"]))] [], .ite (.cmp (.var 1) .gt (.int 6)) [.asg (.t (.v 3)) (.bin .add (.var 3) (.lst false [.str "and", .str "or", .str "or", .str "and"]))] [], .asg (.t (.v 4)) (.call 21 [.var 0, .var 3] [] []), .ite (.cmp (.var 4) .in_ (.tup [.str "tied", .str "same"])) [.ret (.lst false [.var 4, .call 22 [.var 0] [] [], .call 22 [.var 0] [] []])] [], .ite (.cmp (.var 4) .eq (.str "not")) [.ret (.bin .add (.lst false [.var 4]) (.call 23 [.var 0, .bin .sub (.var 1) (.int 1), .var 2] [] []))] [], .ite (.cmp (.var 4) .in_ (.tup [.str "some", .str "all"])) [.ret (.bin .add (.lst false [.var 4, .call 22 [.var 0] [] []]) (.call 23 [.var 0, .bin .sub (.var 1) (.int 2), .bin .sub (.var 2) (.int 1)] [] []))] [], .asg (.t (.v 5)) (.call 23 [.var 0, .bin .add (.int 3) (.call 20 [.var 0, .bin .sub (.var 1) (.int 6)] [] []), .var 2] [] []), .ret (.bin .add (.bin .add (.lst false [.var 4]) (.var 5)) (.call 23 [.var 0, .bin .sub (.bin .sub (.var 1) (.int 1)) (.bi .len false [.var 5]), .var 2] [] []))], dfl := [], keep := false }  -- _law_items
abbrev N23 : List Str := ["_law_pen_here", "_law_room", "_law_looks", "_law_some", "_law_word", "_law_first"]
def d24 : Df := { ps := [25], slots := 5, body := [.asg (.t (.v 1)) (.call 21 [.var 0, .lst false [.int 40, .int 12, .int 5, .int 20, .int 3, .int 40]] [] []), .asg (.t (.v 2)) (.call 20 [.var 0, .int 4] [] []), .ite (.cmp (.var 2) .eq (.int 0)) [.asg (.t (.v 3)) (.call 23 [.var 0, .bin .add (.int 3) (.call 20 [.var 0, .int 10] [] []), .int 3] [] []), .whl (.cmp (.bin .add (.bi .len false [.var 3]) (.int 2)) .le (.var 1)) [.asg (.t (.v 3)) (.bin .add (.lst false [.call 21 [.var 0, .lst false [.str "some", .str "all"]] [] [], .call 22 [.var 0] [] []]) (.var 3))], .ret (.var 3)] [], .asg (.t (.v 3)) (.call 23 [.var 0, .var 1, .call 21 [.var 0, .lst false [.int 3, .int 0, .int 18, .int 1, .int 2, .int 4]] [] []] [] []), .ite (.cmp (.var 2) .eq (.int 1)) [.asg (.t (.v 4)) (.bi .max false [.bi .len false [.var 3], .call 21 [.var 0, .lst false [.int 40, .int 39, .int 20, .int 38]] [] []]), .ret (.bin .add (.bin .mul (.lst false [.str "not"]) (.bin .sub (.var 4) (.bi .len false [.var 3]))) (.var 3))] [], .ret (.var 3)], dfl := [], keep := false }  -- _law_drawn
abbrev N24 : List Str := ["_law_pen_here", "_law_room", "_law_way", "_law_found", "_law_wished"]
def d25 : Df := { ps := [30], slots := 8, body := [.asg (.t (.v 1)) (.lst true []), .for_ (.v 2) (.seq (.rev (.var 0))) [.ite (.cmp (.var 2) .in_ (.tup [.str "x", .str "y", .str "z"])) [.ex (.bm (.var 1) .append [.var 2])] [.ite (.cmp (.var 2) .in_ (.tup [.str "tied", .str "same"])) [.par [3, 4] [.bm (.var 1) .pop [], .bm (.var 1) .pop []], .ex (.bm (.var 1) .append [.lst false [.lst false [.var 3, .var 4], .int 0]])] [.ite (.cmp (.var 2) .in_ (.tup [.str "and", .str "or"])) [.par [3, 4] [.bm (.var 1) .pop [], .bm (.var 1) .pop []], .ex (.bm (.var 1) .append [.lst false [.bin .add (.ix (.var 3) (.int 0)) (.ix (.var 4) (.int 0)), .bi .max false [.ix (.var 3) (.int 1), .ix (.var 4) (.int 1)]]])] [.ite (.cmp (.var 2) .in_ (.tup [.str "some", .str "all"])) [.asg (.t (.tup [.v 5, .v 6])) (.tup [.bm (.var 1) .pop [], .bm (.var 1) .pop []]), .ex (.bm (.var 1) .append [.lst false [.comp false (.var 7) (.v 7) (.seq (.ix (.var 6) (.int 0))) [.cmp (.var 7) .ne (.var 5)], .bin .add (.int 1) (.ix (.var 6) (.int 1))]])] []]]]], .ret (.tup [.bi .tuple false [.bi .sorted false [.bi .set false [.ix (.ix (.var 1) (.int 0)) (.int 0)]]], .ix (.ix (.var 1) (.int 0)) (.int 1)])], dfl := [], keep := false }  -- _law_told
abbrev N25 : List Str := ["_law_items_here", "_law_stack", "_law_item", "_law_one", "_law_other", "_law_name", "_law_inner", "_law_each"]
def d26 : Df := { ps := [31, 30], slots := 4, body := [.asg (.t (.tup [.v 2, .v 3])) (.call 25 [.var 1] [] []), .ite (.or (.not (.isi (.var 0) [.cls 5])) (.cmp (.strI (.var 0)) .ne (.bm (.str " ") .join [.var 1]))) [.ret (.bl false)] [], .ite (.or (.not (.isi (.fld (.var 0) 19) [.bty "tuple"])) (.or (.cmp (.fld (.var 0) 19) .ne (.var 2)) (.cmp (.bi .repr false [.fld (.var 0) 20]) .ne (.bi .repr false [.var 3])))) [.ret (.bl false)] [], .ret (.cmp (.bi .repr false [.fld (.var 0) 21]) .eq (.bi .repr false [.cmp (.var 2) .eq (.tup [])]))], dfl := [], keep := false }  -- _law_is_told
abbrev N26 : List Str := ["_law_question", "_law_items_here", "_law_free", "_law_looks"]
def d27 : Df := { ps := [31, 35, 36], slots := 5, body := [.asg (.t (.v 3)) (.non), .try_ [.ite (.cmp (.var 1) .eq (.str "not")) [.asg (.t (.v 3)) (.meth (.var 0) 32 [] [] [])] [.ite (.cmp (.var 1) .eq (.str "and")) [.asg (.t (.v 3)) (.meth (.var 0) 33 [] [23] [.var 2])] [.asg (.t (.v 3)) (.meth (.var 0) 34 [] [23] [.var 2])]]] [.h 2 (some 4) [.asg (.t (.v 3)) (.tup [.str "TooMany", .fld (.var 4) 17, .fld (.var 4) 18, .isi (.var 4) [.cls 0]])], .h 1 (some 4) [.asg (.t (.v 3)) (.tup [.str "BadQuestion", .fld (.var 4) 11, .isi (.var 4) [.cls 0]])]], .ret (.var 3)], dfl := [], keep := false }  -- _law_joined
abbrev N27 : List Str := ["_law_question", "_law_word", "_law_other", "_law_found", "error"]
def d28 : Df := { ps := [31, 30, 35, 36, 37], slots := 7, body := [.asg (.t (.v 5)) (.bin .add (.bin .add (.lst false [.var 2]) (.var 1)) (.ite (.cmp (.var 2) .ne (.str "not")) (.var 4) (.lst false []))), .asg (.t (.v 6)) (.call 27 [.var 0, .var 2, .var 3] [] []), .ite (.cmp (.bi .len false [.var 5]) .gt (.int 40)) [.ret (.cmp (.var 6) .eq (.tup [.str "TooMany", .str "items", .int 40, .bl true]))] [], .ret (.and (.not (.isi (.var 6) [.bty "tuple"])) (.and (.call 26 [.var 6, .var 5] [] []) (.cmp (.var 6) .eq (.call 13 [.bm (.str " ") .join [.var 5]] [] []))))], dfl := [], keep := false }  -- _law_join_right
abbrev N28 : List Str := ["_law_question", "_law_items_here", "_law_word", "_law_other", "_law_its", "_law_longer", "_law_found"]
def d29 : Df := { ps := [25, 31, 30], slots := 5, body := [.asg (.t (.v 3)) (.call 21 [.var 0, .lst false [.bm (.str " ") .join [.var 2], .non, .var 2, .bl true, .int 0, .tup [.str "tied", .str "x", .str "y"], .tup [], .dic0, .lst false [.var 1]]] [] []), .for_ (.v 4) (.seq (.tup [.str "and", .str "or"])) [.ite (.cmp (.call 27 [.var 1, .var 4, .var 3] [] []) .ne (.tup [.str "BadQuestion", .str "other", .bl true])) [.ret (.bl false)] []], .ret (.and (.cmp (.var 1) .ne (.var 3)) (.and (.not (.cmp (.var 1) .eq (.var 3))) (.call 26 [.var 1, .var 2] [] [])))], dfl := [], keep := false }  -- _law_odd_right
abbrev N29 : List Str := ["_law_pen_here", "_law_question", "_law_items_here", "_law_odd", "_law_word"]
def d30 : Df := { ps := [24], slots := 8, body := [.asg (.t (.v 1)) (.call 19 [.var 0] [] []), .for_ (.v 2) (.rng [.int 5]) [.asg (.t (.v 3)) (.call 24 [.var 1] [] []), .asg (.t (.v 4)) (.ite (.cmp (.call 20 [.var 1, .int 6] [] []) .eq (.int 0)) (.var 3) (.call 24 [.var 1] [] [])), .ite (.cmp (.call 20 [.var 1, .int 3] [] []) .eq (.int 0)) [.asg (.t (.v 4)) (.slc (.var 4) (some (.neg (.int 3))) (none))] [], .par [5, 6] [.call 13 [] [5] [.bm (.str " ") .join [.var 3]], .call 13 [.bm (.str " ") .join [.var 4]] [] []], .ite (.or (.not (.call 26 [.var 5, .var 3] [] [])) (.not (.call 26 [.var 6, .var 4] [] []))) [.ret (.bl false)] [], .ite (.or (.cmp (.cmp (.var 5) .eq (.var 6)) .ne (.cmp (.var 3) .eq (.var 4))) (.cmp (.cmp (.var 5) .ne (.var 6)) .ne (.cmp (.var 3) .ne (.var 4)))) [.ret (.bl false)] [], .for_ (.v 7) (.seq (.tup [.str "not", .str "and", .str "or", .str "and"])) [.ite (.or (.not (.call 28 [.var 5, .var 3, .var 7, .var 6, .var 4] [] [])) (.not (.call 28 [.var 6, .var 4, .var 7, .var 5, .var 3] [] []))) [.ret (.bl false)] []], .ite (.or (.not (.call 29 [.var 1, .var 5, .var 3] [] [])) (.not (.call 26 [.var 6, .var 4] [] []))) [.ret (.bl false)] []], .ret (.bl true)], dfl := [], keep := false }  -- law
abbrev N30 : List Str := ["_law_script", "_law_pen_here", "_law_turn", "_law_items_here", "_law_its", "_law_one", "_law_other", "_law_word"]
def e0 : DefX := ⟨.met "Scan" "__init__", "__init__", "Scan.__init__", defArgs (inClass (top 7) 0), defBody (inClass (top 7) 0), defScope (inClass (top 7) 0), []⟩
def e1 : DefX := ⟨.met "Scan" "is_done", "is_done", "Scan.is_done", defArgs (inClass (top 7) 1), defBody (inClass (top 7) 1), defScope (inClass (top 7) 1), []⟩
def e2 : DefX := ⟨.met "Scan" "ahead", "ahead", "Scan.ahead", defArgs (inClass (top 7) 2), defBody (inClass (top 7) 2), defScope (inClass (top 7) 2), []⟩
def e3 : DefX := ⟨.met "Scan" "refuse", "refuse", "Scan.refuse", defArgs (inClass (top 7) 3), defBody (inClass (top 7) 3), defScope (inClass (top 7) 3), []⟩
def e4 : DefX := ⟨.met "Scan" "take", "take", "Scan.take", defArgs (inClass (top 7) 5), defBody (inClass (top 7) 5), defScope (inClass (top 7) 5), []⟩
def e5 : DefX := ⟨.met "Scan" "take_one_of", "take_one_of", "Scan.take_one_of", defArgs (inClass (top 7) 7), defBody (inClass (top 7) 7), defScope (inClass (top 7) 7), []⟩
def e6 : DefX := ⟨.met "Scan" "finish", "finish", "Scan.finish", defArgs (inClass (top 7) 10), defBody (inClass (top 7) 10), defScope (inClass (top 7) 10), []⟩
def e7 : DefX := ⟨.glo "need_question", "need_question", "need_question", defArgs (top 17), defBody (top 17), defScope (top 17), [.str "question"]⟩
def e8 : DefX := ⟨.glo "take_root", "take_root", "take_root", defArgs (top 18), defBody (top 18), defScope (top 18), []⟩
def e9 : DefX := ⟨.glo "items_of", "items_of", "items_of", defArgs (top 19), defBody (top 19), defScope (top 19), []⟩
def e10 : DefX := ⟨.glo "free_of", "free_of", "free_of", defArgs (top 20), defBody (top 20), defScope (top 20), []⟩
def e11 : DefX := ⟨.glo "looks_of", "looks_of", "looks_of", defArgs (top 21), defBody (top 21), defScope (top 21), []⟩
def e12 : DefX := ⟨.met "Question" "__init__", "__init__", "Question.__init__", defArgs (inClass (top 22) 0), defBody (inClass (top 22) 0), defScope (inClass (top 22) 0), []⟩
def e13 : DefX := ⟨.sta "Question" "read", "read", "Question.read", defArgs (inClass (top 22) 1), defBody (inClass (top 22) 1), defScope (inClass (top 22) 1), []⟩
def e14 : DefX := ⟨.met "Question" "negated", "negated", "Question.negated", defArgs (inClass (top 22) 2), defBody (inClass (top 22) 2), defScope (inClass (top 22) 2), []⟩
def e15 : DefX := ⟨.met "Question" "both", "both", "Question.both", defArgs (inClass (top 22) 3), defBody (inClass (top 22) 3), defScope (inClass (top 22) 3), []⟩
def e16 : DefX := ⟨.met "Question" "either", "either", "Question.either", defArgs (inClass (top 22) 4), defBody (inClass (top 22) 4), defScope (inClass (top 22) 4), []⟩
def e17 : DefX := ⟨.met "Question" "__eq__", "__eq__", "Question.__eq__", defArgs (inClass (top 22) 6), defBody (inClass (top 22) 6), defScope (inClass (top 22) 6), []⟩
def e18 : DefX := ⟨.met "Question" "__str__", "__str__", "Question.__str__", defArgs (inClass (top 22) 7), defBody (inClass (top 22) 7), defScope (inClass (top 22) 7), []⟩
def e19 : DefX := ⟨.glo "_law_pen", "_law_pen", "_law_pen", defArgs (top 24), defBody (top 24), defScope (top 24), []⟩
def e20 : DefX := ⟨.glo "_law_draw", "_law_draw", "_law_draw", defArgs (top 25), defBody (top 25), defScope (top 25), []⟩
def e21 : DefX := ⟨.glo "_law_one_of", "_law_one_of", "_law_one_of", defArgs (top 26), defBody (top 26), defScope (top 26), []⟩
def e22 : DefX := ⟨.glo "_law_letter", "_law_letter", "_law_letter", defArgs (top 27), defBody (top 27), defScope (top 27), []⟩
def e23 : DefX := ⟨.glo "_law_items", "_law_items", "_law_items", defArgs (top 28), defBody (top 28), defScope (top 28), []⟩
def e24 : DefX := ⟨.glo "_law_drawn", "_law_drawn", "_law_drawn", defArgs (top 29), defBody (top 29), defScope (top 29), []⟩
def e25 : DefX := ⟨.glo "_law_told", "_law_told", "_law_told", defArgs (top 30), defBody (top 30), defScope (top 30), []⟩
def e26 : DefX := ⟨.glo "_law_is_told", "_law_is_told", "_law_is_told", defArgs (top 31), defBody (top 31), defScope (top 31), []⟩
def e27 : DefX := ⟨.glo "_law_joined", "_law_joined", "_law_joined", defArgs (top 32), defBody (top 32), defScope (top 32), []⟩
def e28 : DefX := ⟨.glo "_law_join_right", "_law_join_right", "_law_join_right", defArgs (top 33), defBody (top 33), defScope (top 33), []⟩
def e29 : DefX := ⟨.glo "_law_odd_right", "_law_odd_right", "_law_odd_right", defArgs (top 34), defBody (top 34), defScope (top 34), []⟩
def e30 : DefX := ⟨.glo "law", "law", "law", defArgs (top 35), defBody (top 35), defScope (top 35), []⟩
def x0 : DefX := ⟨.met "BadQuestion" "__init__", "__init__", "BadQuestion.__init__", defArgs (inClass (top 3) 0), defBody (inClass (top 3) 0), defScope (inClass (top 3) 0), []⟩
def x1 : DefX := ⟨.met "TooMany" "__init__", "__init__", "TooMany.__init__", defArgs (inClass (top 4) 0), defBody (inClass (top 4) 0), defScope (inClass (top 4) 0), []⟩
def x2 : DefX := ⟨.met "BadText" "__init__", "__init__", "BadText.__init__", defArgs (inClass (top 5) 0), defBody (inClass (top 5) 0), defScope (inClass (top 5) 0), []⟩
def nms0 : List Str := ["line", "item", "told", "at", "self", "text", "is_done", "refuse", "ahead", "take", "wanted", "part", "value", "take_one_of", "scan", "behind", "root", "what", "most", "free", "looks", "is_closed", "finish", "other", "_law_script"]
def nms1 : List Str := ["_law_pen_here", "_law_many", "_law_some", "_law_room", "_law_looks", "_law_items_here", "_law_question", "negated", "both", "either", "_law_word", "_law_other", "_law_its"]
def nms : List Str := nms0 ++ nms1
def cns0 : List Str := ["ThinError", "BadQuestion", "TooMany", "BadText", "Scan", "Question"]
def cns : List Str := cns0
def pd : PD := { dfs := [d0, d1, d2, d3, d4, d5, d6, d7, d8, d9, d10, d11, d12, d13, d14, d15, d16, d17, d18, d19, d20, d21, d22, d23, d24, d25, d26, d27, d28, d29, d30], defs := [e0, e1, e2, e3, e4, e5, e6, e7, e8, e9, e10, e11, e12, e13, e14, e15, e16, e17, e18, e19, e20, e21, e22, e23, e24, e25, e26, e27, e28, e29, e30], pns := [["self", "text"], ["self"], ["self"], ["self"], ["self"], ["self", "wanted"], ["self"], ["value", "part"], ["scan", "behind"], ["root"], ["root"], ["root"], ["self", "root"], ["text"], ["self"], ["self", "other"], ["self", "other"], ["self", "other"], ["self"], ["_law_script"], ["_law_pen_here", "_law_many"], ["_law_pen_here", "_law_some"], ["_law_pen_here"], ["_law_pen_here", "_law_room", "_law_looks"], ["_law_pen_here"], ["_law_items_here"], ["_law_question", "_law_items_here"], ["_law_question", "_law_word", "_law_other"], ["_law_question", "_law_items_here", "_law_word", "_law_other", "_law_its"], ["_law_pen_here", "_law_question", "_law_items_here"], ["_law_script"]], cn := cns, nms := nms, cl := [4, 5], xc := [0, 1, 2, 3], fld := [(1, 11), (2, 17), (2, 18), (3, 0), (3, 1), (4, 2), (4, 3), (5, 16), (5, 5), (5, 19), (5, 20), (5, 21)], meth := [((4, 6), 1), ((4, 8), 2), ((4, 7), 3), ((4, 9), 4), ((4, 13), 5), ((4, 22), 6), ((5, 32), 14), ((5, 33), 15), ((5, 34), 16)], prop := [], init := [(4, 0), (5, 12)], eqm := [(5, 17)], strm := [(5, 18)], boolm := [], keep := [4], exf := [(1, [11]), (2, [17, 18]), (3, [0, 1])], sub := [(0, 0), (1, 1), (1, 0), (2, 2), (2, 0), (3, 3), (3, 0), (4, 4), (5, 5)], glob := [.dic [(.inr "tied", .int 2), (.inr "same", .int 2), (.inr "not", .int 3), (.inr "and", .int 6), (.inr "or", .int 6), (.inr "some", .int 4), (.inr "all", .int 4)], .int 40, .tup [.str "tied", .str "same"], .tup [.str "x", .str "y", .str "z"], .tup [.str "some", .str "all"], .tup [.str "and", .str "or"], .int 3, .str "not"] }
structure Nm (T : Wd) : Prop where
  m_NEEDED : T.mg "NEEDED" = some (.ref (ga T.K "NEEDED"))
  r_NEEDED : ∀ F R, Rel ⟨T.P, T.w, T.K, (pd.G T.K).C, (pd.G T.K).nm⟩ F R (.dic [(.inr "tied", .int 2), (.inr "same", .int 2), (.inr "not", .int 3), (.inr "and", .int 6), (.inr "or", .int 6), (.inr "some", .int 4), (.inr "all", .int 4)]) (.ref (ga T.K "NEEDED"))
  m_MOST_ITEMS : ∃ t, T.mg "MOST_ITEMS" = some (.int 40 t)
  m_PLAIN : T.mg "PLAIN" = some (.ref (ga T.K "PLAIN"))
  r_PLAIN : ∀ F R, Rel ⟨T.P, T.w, T.K, (pd.G T.K).C, (pd.G T.K).nm⟩ F R (.tup [.str "tied", .str "same"]) (.ref (ga T.K "PLAIN"))
  m_NAMES : T.mg "NAMES" = some (.ref (ga T.K "NAMES"))
  r_NAMES : ∀ F R, Rel ⟨T.P, T.w, T.K, (pd.G T.K).C, (pd.G T.K).nm⟩ F R (.tup [.str "x", .str "y", .str "z"]) (.ref (ga T.K "NAMES"))
  m_LOOKS : T.mg "LOOKS" = some (.ref (ga T.K "LOOKS"))
  r_LOOKS : ∀ F R, Rel ⟨T.P, T.w, T.K, (pd.G T.K).C, (pd.G T.K).nm⟩ F R (.tup [.str "some", .str "all"]) (.ref (ga T.K "LOOKS"))
  m_JOINED : T.mg "JOINED" = some (.ref (ga T.K "JOINED"))
  r_JOINED : ∀ F R, Rel ⟨T.P, T.w, T.K, (pd.G T.K).C, (pd.G T.K).nm⟩ F R (.tup [.str "and", .str "or"]) (.ref (ga T.K "JOINED"))
  m_LEAST_ITEMS : ∃ t, T.mg "LEAST_ITEMS" = some (.int 3 t)
  m_NEGATION : ∃ t, T.mg "NEGATION" = some (.str "not" t)
  m_need_question : T.mg "need_question" = some (.ref ((pd.G T.K).fa 7))
  m_take_root : T.mg "take_root" = some (.ref ((pd.G T.K).fa 8))
  m_items_of : T.mg "items_of" = some (.ref ((pd.G T.K).fa 9))
  m_free_of : T.mg "free_of" = some (.ref ((pd.G T.K).fa 10))
  m_looks_of : T.mg "looks_of" = some (.ref ((pd.G T.K).fa 11))
  m__law_pen : T.mg "_law_pen" = some (.ref ((pd.G T.K).fa 19))
  m__law_draw : T.mg "_law_draw" = some (.ref ((pd.G T.K).fa 20))
  m__law_one_of : T.mg "_law_one_of" = some (.ref ((pd.G T.K).fa 21))
  m__law_letter : T.mg "_law_letter" = some (.ref ((pd.G T.K).fa 22))
  m__law_items : T.mg "_law_items" = some (.ref ((pd.G T.K).fa 23))
  m__law_drawn : T.mg "_law_drawn" = some (.ref ((pd.G T.K).fa 24))
  m__law_told : T.mg "_law_told" = some (.ref ((pd.G T.K).fa 25))
  m__law_is_told : T.mg "_law_is_told" = some (.ref ((pd.G T.K).fa 26))
  m__law_joined : T.mg "_law_joined" = some (.ref ((pd.G T.K).fa 27))
  m__law_join_right : T.mg "_law_join_right" = some (.ref ((pd.G T.K).fa 28))
  m__law_odd_right : T.mg "_law_odd_right" = some (.ref ((pd.G T.K).fa 29))
  m_ThinError : T.mg "ThinError" = some (.ref ((pd.G T.K).C 0))
  m_BadQuestion : T.mg "BadQuestion" = some (.ref ((pd.G T.K).C 1))
  m_TooMany : T.mg "TooMany" = some (.ref ((pd.G T.K).C 2))
  m_BadText : T.mg "BadText" = some (.ref ((pd.G T.K).C 3))
  m_Scan : T.mg "Scan" = some (.ref ((pd.G T.K).C 4))
  m_Question : T.mg "Question" = some (.ref ((pd.G T.K).C 5))
  b_isinstance : T.mg "isinstance" = none
  b_str : T.mg "str" = none
  b_len : T.mg "len" = none
  b_list : T.mg "list" = none
  b_max : T.mg "max" = none
  b_set : T.mg "set" = none
  b_sorted : T.mg "sorted" = none
  b_tuple : T.mg "tuple" = none
  b_int : T.mg "int" = none
  b_abs : T.mg "abs" = none
  b_repr : T.mg "repr" = none
  b_range : T.mg "range" = none
  s1_Question : PySem.W.specialIn T.K (.ref ((pd.G T.K).C 5)) "__getattribute__" = some (some (.builtin "type.__getattribute__"))
  s2_Question : PySem.W.readsIn T.K ((pd.G T.K).C 5) (.type "type") = true
  s3_Question_read : PySem.W.findCls T.K (.ref ((pd.G T.K).C 5)) (.type "type") "read" = some (.get (.builtin "staticmethod.__get__") (.ref (ma T.K (ga T.K "Question") "read")) .none (.ref ((pd.G T.K).C 5)))
  s4_Question_read : ∃ rest, PySem.W.recIn T.K (ma T.K (ga T.K "Question") "read") "staticmethod" = some (.ref ((pd.G T.K).fa 13) :: rest)
structure Kb (T : Wd) : Prop where
  none_ : True
  kb_13_0_text : KBd (pd.G T.K) T.K 13 0 ["text"] [5]
  mk_ahead_0_ : ∀ c f, (pd.G T.K).P.meth c 8 = some f → KBd (pd.G T.K) T.K f 1 [] [] ∧ ∃ d, (pd.G T.K).P.df f = some d
  mk_both_0_other : ∀ c f, (pd.G T.K).P.meth c 33 = some f → KBd (pd.G T.K) T.K f 1 ["other"] [23] ∧ ∃ d, (pd.G T.K).P.df f = some d
  mk_either_0_other : ∀ c f, (pd.G T.K).P.meth c 34 = some f → KBd (pd.G T.K) T.K f 1 ["other"] [23] ∧ ∃ d, (pd.G T.K).P.df f = some d
  mk_finish_0_ : ∀ c f, (pd.G T.K).P.meth c 22 = some f → KBd (pd.G T.K) T.K f 1 [] [] ∧ ∃ d, (pd.G T.K).P.df f = some d
  mk_is_done_0_ : ∀ c f, (pd.G T.K).P.meth c 6 = some f → KBd (pd.G T.K) T.K f 1 [] [] ∧ ∃ d, (pd.G T.K).P.df f = some d
  mk_negated_0_ : ∀ c f, (pd.G T.K).P.meth c 32 = some f → KBd (pd.G T.K) T.K f 1 [] [] ∧ ∃ d, (pd.G T.K).P.df f = some d
  mk_refuse_0_ : ∀ c f, (pd.G T.K).P.meth c 7 = some f → KBd (pd.G T.K) T.K f 1 [] [] ∧ ∃ d, (pd.G T.K).P.df f = some d
  mk_take_0_ : ∀ c f, (pd.G T.K).P.meth c 9 = some f → KBd (pd.G T.K) T.K f 1 [] [] ∧ ∃ d, (pd.G T.K).P.df f = some d
  mk_take_one_of_1_ : ∀ c f, (pd.G T.K).P.meth c 13 = some f → KBd (pd.G T.K) T.K f 2 [] [] ∧ ∃ d, (pd.G T.K).P.df f = some d
theorem sc0 : FnScope N0 ["self", "text"] (defScope (inClass (top 7) 0)) := ⟨rfl, rfl, rfl, by decide +kernel, rfl, by decide +kernel, by decide +kernel⟩
theorem w0 {T : Wd} {n : Nat} (M : Nm T) (K : Kb T) (cf : ClF (pd.G T.K) T.K) {qual : Str} {f : Addr} {cdv : Value} {A : Around} {outer : List Env} {s : Shared} {H : Hp} {X0 : XK} (C : Cn (pd.G T.K) n (T.cx N0 qual (defScope (inClass (top 7) 0)) f cdv A outer s H X0) (fun c d _ H => X0 c d H)) :
    PSs (T.cx N0 qual (defScope (inClass (top 7) 0)) f cdv A outer s H X0) (defBody (inClass (top 7) 0)) (tSs (pd.G T.K) n (T.cx N0 qual (defScope (inClass (top 7) 0)) f cdv A outer s H X0) (fun c d _ H => X0 c d H) d0.body) :=
    ss_cons (s_ite (t_not (t_val (e_isi1 cf (gl_ (by kernel_rfl)) M.b_isinstance (v_ 1 (by kernel_rfl) rfl) (cb_ (gl_ (by kernel_rfl)) M.b_str (by rfl)))))
    (ss_cons (s_raise C (fs := [0, 1]) (by rfl) (l_cons (e_int) (l_cons (e_int) (l_nil))) (gl_ (by kernel_rfl)) M.m_BadText)
    (ss_nil))
    (ss_nil))
    (ss_cons (s_fld cf (v_ 0 (by kernel_rfl) rfl) (e_bm PySem.F.plainAttrs_str PySem.F.slot_str_split PySem.F.type_str_split m_split (fun a b c => ty_str (is_str (by simp)) a b c) (v_ 1 (by kernel_rfl) rfl) (l_cons (e_str) (l_nil))) rfl)
    (ss_cons (s_fld cf (v_ 0 (by kernel_rfl) rfl) (e_int) rfl)
    (ss_nil)))
theorem sc1 : FnScope N1 ["self"] (defScope (inClass (top 7) 1)) := ⟨rfl, rfl, rfl, by decide +kernel, rfl, by decide +kernel, by decide +kernel⟩
theorem w1 {T : Wd} {n : Nat} (M : Nm T) (K : Kb T) (cf : ClF (pd.G T.K) T.K) {qual : Str} {f : Addr} {cdv : Value} {A : Around} {outer : List Env} {s : Shared} {H : Hp} {X0 : XK} (C : Cn (pd.G T.K) n (T.cx N1 qual (defScope (inClass (top 7) 1)) f cdv A outer s H X0) (fun c d _ H => X0 c d H)) :
    PSs (T.cx N1 qual (defScope (inClass (top 7) 1)) f cdv A outer s H X0) (defBody (inClass (top 7) 1)) (tSs (pd.G T.K) n (T.cx N1 qual (defScope (inClass (top 7) 1)) f cdv A outer s H X0) (fun c d _ H => X0 c d H) d1.body) :=
    ss_cons (s_ret (e_cmp (o_eq C cf) (e_fld0 cf (v_ 0 (by kernel_rfl) rfl) rfl) (e_bi b_len (gl_ (by kernel_rfl)) M.b_len (by rfl) (l_cons (e_fld0 cf (v_ 0 (by kernel_rfl) rfl) rfl) (l_nil))) (by kernel_rfl)))
    (ss_nil)
theorem sc2 : FnScope N2 ["self"] (defScope (inClass (top 7) 2)) := ⟨rfl, rfl, rfl, by decide +kernel, rfl, by decide +kernel, by decide +kernel⟩
theorem w2 {T : Wd} {n : Nat} (M : Nm T) (K : Kb T) (cf : ClF (pd.G T.K) T.K) {qual : Str} {f : Addr} {cdv : Value} {A : Around} {outer : List Env} {s : Shared} {H : Hp} {X0 : XK} (C : Cn (pd.G T.K) n (T.cx N2 qual (defScope (inClass (top 7) 2)) f cdv A outer s H X0) (fun c d _ H => X0 c d H)) :
    PSs (T.cx N2 qual (defScope (inClass (top 7) 2)) f cdv A outer s H X0) (defBody (inClass (top 7) 2)) (tSs (pd.G T.K) n (T.cx N2 qual (defScope (inClass (top 7) 2)) f cdv A outer s H X0) (fun c d _ H => X0 c d H) d2.body) :=
    ss_cons (s_ret (e_ite (t_val (e_meth C cf (v_ 0 (by kernel_rfl) rfl) rfl (ak_nil) (K.mk_is_done_0_) rfl)) (e_non) (e_ix (e_fld0 cf (v_ 0 (by kernel_rfl) rfl) rfl) (e_fld0 cf (v_ 0 (by kernel_rfl) rfl) rfl))))
    (ss_nil)
theorem sc3 : FnScope N3 ["self"] (defScope (inClass (top 7) 3)) := ⟨rfl, rfl, rfl, by decide +kernel, rfl, by decide +kernel, by decide +kernel⟩
theorem w3 {T : Wd} {n : Nat} (M : Nm T) (K : Kb T) (cf : ClF (pd.G T.K) T.K) {qual : Str} {f : Addr} {cdv : Value} {A : Around} {outer : List Env} {s : Shared} {H : Hp} {X0 : XK} (C : Cn (pd.G T.K) n (T.cx N3 qual (defScope (inClass (top 7) 3)) f cdv A outer s H X0) (fun c d _ H => X0 c d H)) :
    PSs (T.cx N3 qual (defScope (inClass (top 7) 3)) f cdv A outer s H X0) (defBody (inClass (top 7) 3)) (tSs (pd.G T.K) n (T.cx N3 qual (defScope (inClass (top 7) 3)) f cdv A outer s H X0) (fun c d _ H => X0 c d H) d3.body) :=
    ss_cons (s_raise C (fs := [0, 1]) (by rfl) (l_cons (e_int) (l_cons (e_fld0 cf (v_ 0 (by kernel_rfl) rfl) rfl) (l_nil))) (gl_ (by kernel_rfl)) M.m_BadText)
    (ss_nil)
theorem sc4 : FnScope N4 ["self"] (defScope (inClass (top 7) 5)) := ⟨rfl, rfl, rfl, by decide +kernel, rfl, by decide +kernel, by decide +kernel⟩
theorem w4 {T : Wd} {n : Nat} (M : Nm T) (K : Kb T) (cf : ClF (pd.G T.K) T.K) {qual : Str} {f : Addr} {cdv : Value} {A : Around} {outer : List Env} {s : Shared} {H : Hp} {X0 : XK} (C : Cn (pd.G T.K) n (T.cx N4 qual (defScope (inClass (top 7) 5)) f cdv A outer s H X0) (fun c d _ H => X0 c d H)) :
    PSs (T.cx N4 qual (defScope (inClass (top 7) 5)) f cdv A outer s H X0) (defBody (inClass (top 7) 5)) (tSs (pd.G T.K) n (T.cx N4 qual (defScope (inClass (top 7) 5)) f cdv A outer s H X0) (fun c d _ H => X0 c d H) d4.body) :=
    ss_cons (s_ite (t_val (e_meth C cf (v_ 0 (by kernel_rfl) rfl) rfl (ak_nil) (K.mk_is_done_0_) rfl))
    (ss_cons (s_ex (e_meth C cf (v_ 0 (by kernel_rfl) rfl) rfl (ak_nil) (K.mk_refuse_0_) rfl))
    (ss_nil))
    (ss_nil))
    (ss_cons (s_fld cf (v_ 0 (by kernel_rfl) rfl) (e_bin o_add (e_fld0 cf (v_ 0 (by kernel_rfl) rfl) rfl) (e_int)) rfl)
    (ss_cons (s_ret (e_ix (e_fld0 cf (v_ 0 (by kernel_rfl) rfl) rfl) (e_bin o_sub (e_fld0 cf (v_ 0 (by kernel_rfl) rfl) rfl) (e_int))))
    (ss_nil)))
theorem sc5 : FnScope N5 ["self", "wanted"] (defScope (inClass (top 7) 7)) := ⟨rfl, rfl, rfl, by decide +kernel, rfl, by decide +kernel, by decide +kernel⟩
theorem w5 {T : Wd} {n : Nat} (M : Nm T) (K : Kb T) (cf : ClF (pd.G T.K) T.K) {qual : Str} {f : Addr} {cdv : Value} {A : Around} {outer : List Env} {s : Shared} {H : Hp} {X0 : XK} (C : Cn (pd.G T.K) n (T.cx N5 qual (defScope (inClass (top 7) 7)) f cdv A outer s H X0) (fun c d _ H => X0 c d H)) :
    PSs (T.cx N5 qual (defScope (inClass (top 7) 7)) f cdv A outer s H X0) (defBody (inClass (top 7) 7)) (tSs (pd.G T.K) n (T.cx N5 qual (defScope (inClass (top 7) 7)) f cdv A outer s H X0) (fun c d _ H => X0 c d H) d5.body) :=
    ss_cons (s_ite (PW.pt (w_or (t_val (e_meth C cf (v_ 0 (by kernel_rfl) rfl) rfl (ak_nil) (K.mk_is_done_0_) rfl)) (w_one' (t_cmp (o_notin C) (e_meth C cf (v_ 0 (by kernel_rfl) rfl) rfl (ak_nil) (K.mk_ahead_0_) rfl) (v_ 1 (by kernel_rfl) rfl) (by kernel_rfl)))))
    (ss_cons (s_ex (e_meth C cf (v_ 0 (by kernel_rfl) rfl) rfl (ak_nil) (K.mk_refuse_0_) rfl))
    (ss_nil))
    (ss_nil))
    (ss_cons (s_ret (e_meth C cf (v_ 0 (by kernel_rfl) rfl) rfl (ak_nil) (K.mk_take_0_) rfl))
    (ss_nil))
theorem sc6 : FnScope N6 ["self"] (defScope (inClass (top 7) 10)) := ⟨rfl, rfl, rfl, by decide +kernel, rfl, by decide +kernel, by decide +kernel⟩
theorem w6 {T : Wd} {n : Nat} (M : Nm T) (K : Kb T) (cf : ClF (pd.G T.K) T.K) {qual : Str} {f : Addr} {cdv : Value} {A : Around} {outer : List Env} {s : Shared} {H : Hp} {X0 : XK} (C : Cn (pd.G T.K) n (T.cx N6 qual (defScope (inClass (top 7) 10)) f cdv A outer s H X0) (fun c d _ H => X0 c d H)) :
    PSs (T.cx N6 qual (defScope (inClass (top 7) 10)) f cdv A outer s H X0) (defBody (inClass (top 7) 10)) (tSs (pd.G T.K) n (T.cx N6 qual (defScope (inClass (top 7) 10)) f cdv A outer s H X0) (fun c d _ H => X0 c d H) d6.body) :=
    ss_cons (s_ite (t_not (t_val (e_meth C cf (v_ 0 (by kernel_rfl) rfl) rfl (ak_nil) (K.mk_is_done_0_) rfl)))
    (ss_cons (s_ex (e_meth C cf (v_ 0 (by kernel_rfl) rfl) rfl (ak_nil) (K.mk_refuse_0_) rfl))
    (ss_nil))
    (ss_nil))
    (ss_nil)
theorem sc7 : FnScope N7 ["value", "part"] (defScope (top 17)) := ⟨rfl, rfl, rfl, by decide +kernel, rfl, by decide +kernel, by decide +kernel⟩
theorem w7 {T : Wd} {n : Nat} (M : Nm T) (K : Kb T) (cf : ClF (pd.G T.K) T.K) {qual : Str} {f : Addr} {cdv : Value} {A : Around} {outer : List Env} {s : Shared} {H : Hp} {X0 : XK} (C : Cn (pd.G T.K) n (T.cx N7 qual (defScope (top 17)) f cdv A outer s H X0) (fun c d _ H => X0 c d H)) :
    PSs (T.cx N7 qual (defScope (top 17)) f cdv A outer s H X0) (defBody (top 17)) (tSs (pd.G T.K) n (T.cx N7 qual (defScope (top 17)) f cdv A outer s H X0) (fun c d _ H => X0 c d H) d7.body) :=
    ss_cons (s_ite (t_not (t_val (e_isi1 cf (gl_ (by kernel_rfl)) M.b_isinstance (v_ 0 (by kernel_rfl) rfl) (co_ (gl_ (by kernel_rfl)) M.m_Question))))
    (ss_cons (s_raise C (fs := [11]) (by rfl) (l_cons (v_ 1 (by kernel_rfl) rfl) (l_nil)) (gl_ (by kernel_rfl)) M.m_BadQuestion)
    (ss_nil))
    (ss_nil))
    (ss_nil)
theorem sc8 : FnScope N8 ["scan", "behind"] (defScope (top 18)) := ⟨rfl, rfl, rfl, by decide +kernel, rfl, by decide +kernel, by decide +kernel⟩
theorem w8 {T : Wd} {n : Nat} (M : Nm T) (K : Kb T) (cf : ClF (pd.G T.K) T.K) {qual : Str} {f : Addr} {cdv : Value} {A : Around} {outer : List Env} {s : Shared} {H : Hp} {X0 : XK} (C : Cn (pd.G T.K) n (T.cx N8 qual (defScope (top 18)) f cdv A outer s H X0) (fun c d _ H => X0 c d H)) :
    PSs (T.cx N8 qual (defScope (top 18)) f cdv A outer s H X0) (defBody (top 18)) (tSs (pd.G T.K) n (T.cx N8 qual (defScope (top 18)) f cdv A outer s H X0) (fun c d _ H => X0 c d H) d8.body) :=
    ss_cons (s_asg (e_meth C cf (v_ 0 (by kernel_rfl) rfl) rfl (ak_nil) (K.mk_ahead_0_) rfl) (gv_ 2 C.nd (by kernel_rfl) rfl))
    (ss_cons (s_asg (e_bm PySem.F.plainAttrs_dict PySem.F.slot_dict_get PySem.F.type_dict_get (m_get C) ty_dic (gr_ 0 (gl_ (by kernel_rfl)) M.m_NEEDED rfl M.r_NEEDED (by kernel_rfl)) (l_cons (v_ 2 (by kernel_rfl) rfl) (l_cons (gi_ 1 (gl_ (by kernel_rfl)) M.m_MOST_ITEMS rfl (by kernel_rfl)) (l_nil)))) (gv_ 3 C.nd (by kernel_rfl) rfl))
    (ss_cons (s_ite (t_cmp o_gt (e_bin o_add (e_bin o_add (e_bin o_add (e_fld0 cf (v_ 0 (by kernel_rfl) rfl) rfl) (e_int)) (v_ 3 (by kernel_rfl) rfl)) (v_ 1 (by kernel_rfl) rfl)) (gi_ 1 (gl_ (by kernel_rfl)) M.m_MOST_ITEMS rfl (by kernel_rfl)) (by kernel_rfl))
    (ss_cons (s_ex (e_meth C cf (v_ 0 (by kernel_rfl) rfl) rfl (ak_nil) (K.mk_refuse_0_) rfl))
    (ss_nil))
    (ss_nil))
    (ss_cons (s_ex (e_meth C cf (v_ 0 (by kernel_rfl) rfl) rfl (ak_nil) (K.mk_take_0_) rfl))
    (ss_cons (s_ite (t_cmp (o_in C) (v_ 2 (by kernel_rfl) rfl) (gr_ 2 (gl_ (by kernel_rfl)) M.m_PLAIN rfl M.r_PLAIN (by kernel_rfl)) (by kernel_rfl))
    (ss_cons (s_asg (e_meth C cf (v_ 0 (by kernel_rfl) rfl) rfl (ak_pos (l_cons (gr_ 3 (gl_ (by kernel_rfl)) M.m_NAMES rfl M.r_NAMES (by kernel_rfl)) (l_nil))) (K.mk_take_one_of_1_) rfl) (gv_ 4 C.nd (by kernel_rfl) rfl))
    (ss_cons (s_ret (e_tup (l_cons (v_ 2 (by kernel_rfl) rfl) (l_cons (v_ 4 (by kernel_rfl) rfl) (l_cons (e_meth C cf (v_ 0 (by kernel_rfl) rfl) rfl (ak_pos (l_cons (gr_ 3 (gl_ (by kernel_rfl)) M.m_NAMES rfl M.r_NAMES (by kernel_rfl)) (l_nil))) (K.mk_take_one_of_1_) rfl) (l_nil))))))
    (ss_nil)))
    (ss_nil))
    (ss_cons (s_ite (t_cmp (o_in C) (v_ 2 (by kernel_rfl) rfl) (gr_ 4 (gl_ (by kernel_rfl)) M.m_LOOKS rfl M.r_LOOKS (by kernel_rfl)) (by kernel_rfl))
    (ss_cons (s_asg (e_meth C cf (v_ 0 (by kernel_rfl) rfl) rfl (ak_pos (l_cons (gr_ 3 (gl_ (by kernel_rfl)) M.m_NAMES rfl M.r_NAMES (by kernel_rfl)) (l_nil))) (K.mk_take_one_of_1_) rfl) (gv_ 5 C.nd (by kernel_rfl) rfl))
    (ss_cons (s_ret (e_tup (l_cons (v_ 2 (by kernel_rfl) rfl) (l_cons (v_ 5 (by kernel_rfl) rfl) (l_cons (e_call C cf (f := 8) (by rfl) (ak_pos (l_cons (v_ 0 (by kernel_rfl) rfl) (l_cons (v_ 1 (by kernel_rfl) rfl) (l_nil)))) (kbd_pos cf C rfl rfl) rfl (gl_ (by kernel_rfl)) M.m_take_root) (l_nil))))))
    (ss_nil)))
    (ss_nil))
    (ss_cons (s_ite (t_cmp (o_in C) (v_ 2 (by kernel_rfl) rfl) (gr_ 5 (gl_ (by kernel_rfl)) M.m_JOINED rfl M.r_JOINED (by kernel_rfl)) (by kernel_rfl))
    (ss_cons (s_asg (e_call C cf (f := 8) (by rfl) (ak_pos (l_cons (v_ 0 (by kernel_rfl) rfl) (l_cons (e_bin o_add (v_ 1 (by kernel_rfl) rfl) (gi_ 6 (gl_ (by kernel_rfl)) M.m_LEAST_ITEMS rfl (by kernel_rfl))) (l_nil)))) (kbd_pos cf C rfl rfl) rfl (gl_ (by kernel_rfl)) M.m_take_root) (gv_ 4 C.nd (by kernel_rfl) rfl))
    (ss_cons (s_ret (e_tup (l_cons (v_ 2 (by kernel_rfl) rfl) (l_cons (v_ 4 (by kernel_rfl) rfl) (l_cons (e_call C cf (f := 8) (by rfl) (ak_pos (l_cons (v_ 0 (by kernel_rfl) rfl) (l_cons (v_ 1 (by kernel_rfl) rfl) (l_nil)))) (kbd_pos cf C rfl rfl) rfl (gl_ (by kernel_rfl)) M.m_take_root) (l_nil))))))
    (ss_nil)))
    (ss_nil))
    (ss_cons (s_ret (e_tup (l_cons (v_ 2 (by kernel_rfl) rfl) (l_cons (e_call C cf (f := 8) (by rfl) (ak_pos (l_cons (v_ 0 (by kernel_rfl) rfl) (l_cons (v_ 1 (by kernel_rfl) rfl) (l_nil)))) (kbd_pos cf C rfl rfl) rfl (gl_ (by kernel_rfl)) M.m_take_root) (l_nil)))))
    (ss_nil))))))))
theorem sc9 : FnScope N9 ["root"] (defScope (top 19)) := ⟨rfl, rfl, rfl, by decide +kernel, rfl, by decide +kernel, by decide +kernel⟩
theorem w9 {T : Wd} {n : Nat} (M : Nm T) (K : Kb T) (cf : ClF (pd.G T.K) T.K) {qual : Str} {f : Addr} {cdv : Value} {A : Around} {outer : List Env} {s : Shared} {H : Hp} {X0 : XK} (C : Cn (pd.G T.K) n (T.cx N9 qual (defScope (top 19)) f cdv A outer s H X0) (fun c d _ H => X0 c d H)) :
    PSs (T.cx N9 qual (defScope (top 19)) f cdv A outer s H X0) (defBody (top 19)) (tSs (pd.G T.K) n (T.cx N9 qual (defScope (top 19)) f cdv A outer s H X0) (fun c d _ H => X0 c d H) d9.body) :=
    ss_cons (s_asg (e_lst (l_nil)) (gv_ 1 C.nd (by kernel_rfl) rfl))
    (ss_cons (s_for C (i_seq (v_ 0 (by kernel_rfl) rfl)) (gv_ 2 C.nd (by kernel_rfl) rfl)
    (ss_cons (s_ite (t_val (e_isi1 cf (gl_ (by kernel_rfl)) M.b_isinstance (v_ 2 (by kernel_rfl) rfl) (cb_ (gl_ (by kernel_rfl)) M.b_str (by rfl))))
    (ss_cons (s_ex (e_bm PySem.F.plainAttrs_list PySem.F.slot_list_append PySem.F.type_list_append m_append (fun a b c => ty_list (is_lst (by simp)) a b c) (v_ 1 (by kernel_rfl) rfl) (l_cons (v_ 2 (by kernel_rfl) rfl) (l_nil))))
    (ss_nil))
    (ss_cons (s_ex (e_bm PySem.F.plainAttrs_list PySem.F.slot_list_extend PySem.F.type_list_extend m_extend (fun a b c => ty_list (is_lst (by simp)) a b c) (v_ 1 (by kernel_rfl) rfl) (l_cons (e_call C cf (f := 9) (by rfl) (ak_pos (l_cons (v_ 2 (by kernel_rfl) rfl) (l_nil))) (kbd_pos cf C rfl rfl) rfl (gl_ (by kernel_rfl)) M.m_items_of) (l_nil))))
    (ss_nil)))
    (ss_nil)))
    (ss_cons (s_ret (v_ 1 (by kernel_rfl) rfl))
    (ss_nil)))
theorem sc10 : FnScope N10 ["root"] (defScope (top 20)) := ⟨rfl, rfl, rfl, by decide +kernel, rfl, by decide +kernel, by decide +kernel⟩
theorem w10 {T : Wd} {n : Nat} (M : Nm T) (K : Kb T) (cf : ClF (pd.G T.K) T.K) {qual : Str} {f : Addr} {cdv : Value} {A : Around} {outer : List Env} {s : Shared} {H : Hp} {X0 : XK} (C : Cn (pd.G T.K) n (T.cx N10 qual (defScope (top 20)) f cdv A outer s H X0) (fun c d _ H => X0 c d H)) :
    PSs (T.cx N10 qual (defScope (top 20)) f cdv A outer s H X0) (defBody (top 20)) (tSs (pd.G T.K) n (T.cx N10 qual (defScope (top 20)) f cdv A outer s H X0) (fun c d _ H => X0 c d H) d10.body) :=
    ss_cons (s_ite (t_cmp (o_in C) (e_ix (v_ 0 (by kernel_rfl) rfl) (e_int)) (gr_ 2 (gl_ (by kernel_rfl)) M.m_PLAIN rfl M.r_PLAIN (by kernel_rfl)) (by kernel_rfl))
    (ss_cons (s_ret (e_ty b_list (gl_ (by kernel_rfl)) M.b_list (by rfl) (l_cons (e_slc (v_ 0 (by kernel_rfl) rfl) (o_some (e_int)) (o_none)) (l_nil))))
    (ss_nil))
    (ss_nil))
    (ss_cons (s_ite (t_cmp (o_in C) (e_ix (v_ 0 (by kernel_rfl) rfl) (e_int)) (gr_ 4 (gl_ (by kernel_rfl)) M.m_LOOKS rfl M.r_LOOKS (by kernel_rfl)) (by kernel_rfl))
    (ss_cons (s_ret (e_comp C (i_seq (e_call C cf (f := 10) (by rfl) (ak_pos (l_cons (e_ix (v_ 0 (by kernel_rfl) rfl) (e_int)) (l_nil))) (kbd_pos cf C rfl rfl) rfl (gl_ (by kernel_rfl)) M.m_free_of)) (blkOk_by (own := [("name", 1)]) (by kernel_rfl)) rfl (fun s1 H1 D1 cl1 fp1 => gv_ 1 (C.blk s1 H1 _ D1 cl1 fp1).nd (by kernel_rfl) rfl) (fun s1 H1 D1 cl1 fp1 => ts_one (t_cmp (o_ne (C.blk s1 H1 _ D1 cl1 fp1) cf) (v_ 1 (by kernel_rfl) rfl) (e_ix (v_ 0 (by kernel_rfl) rfl) (e_int)) (by kernel_rfl))) (fun s1 H1 D1 cl1 fp1 => v_ 1 (by kernel_rfl) rfl)))
    (ss_nil))
    (ss_nil))
    (ss_cons (s_ret (e_comp2 C (i_seq (e_slc (v_ 0 (by kernel_rfl) rfl) (o_some (e_int)) (o_none))) (blkOk_by (own := [("part", 2), ("name", 1)]) (by kernel_rfl)) rfl (fun s1 H1 D1 cl1 fp1 => gv_ 2 (C.blk s1 H1 _ D1 cl1 fp1).nd (by kernel_rfl) rfl) (fun s1 H1 D1 cl1 fp1 => ts_nil) (fun s1 H1 D1 cl1 fp1 => i_seq (e_call (C.blk s1 H1 _ D1 cl1 fp1) cf (f := 10) (by rfl) (ak_pos (l_cons (v_ 2 (by kernel_rfl) rfl) (l_nil))) (kbd_pos cf (C.blk s1 H1 _ D1 cl1 fp1) rfl rfl) rfl (gl_ (by kernel_rfl)) M.m_free_of)) (fun s1 H1 D1 cl1 fp1 => gv_ 1 (C.blk s1 H1 _ D1 cl1 fp1).nd (by kernel_rfl) rfl) (fun s1 H1 D1 cl1 fp1 => ts_nil) (fun s1 H1 D1 cl1 fp1 => v_ 1 (by kernel_rfl) rfl)))
    (ss_nil)))
theorem sc11 : FnScope N11 ["root"] (defScope (top 21)) := ⟨rfl, rfl, rfl, by decide +kernel, rfl, by decide +kernel, by decide +kernel⟩
theorem w11 {T : Wd} {n : Nat} (M : Nm T) (K : Kb T) (cf : ClF (pd.G T.K) T.K) {qual : Str} {f : Addr} {cdv : Value} {A : Around} {outer : List Env} {s : Shared} {H : Hp} {X0 : XK} (C : Cn (pd.G T.K) n (T.cx N11 qual (defScope (top 21)) f cdv A outer s H X0) (fun c d _ H => X0 c d H)) :
    PSs (T.cx N11 qual (defScope (top 21)) f cdv A outer s H X0) (defBody (top 21)) (tSs (pd.G T.K) n (T.cx N11 qual (defScope (top 21)) f cdv A outer s H X0) (fun c d _ H => X0 c d H) d11.body) :=
    ss_cons (s_ite (t_cmp (o_in C) (e_ix (v_ 0 (by kernel_rfl) rfl) (e_int)) (gr_ 2 (gl_ (by kernel_rfl)) M.m_PLAIN rfl M.r_PLAIN (by kernel_rfl)) (by kernel_rfl))
    (ss_cons (s_ret (e_int))
    (ss_nil))
    (ss_nil))
    (ss_cons (s_ite (t_cmp (o_in C) (e_ix (v_ 0 (by kernel_rfl) rfl) (e_int)) (gr_ 4 (gl_ (by kernel_rfl)) M.m_LOOKS rfl M.r_LOOKS (by kernel_rfl)) (by kernel_rfl))
    (ss_cons (s_ret (e_bin o_add (e_int) (e_call C cf (f := 11) (by rfl) (ak_pos (l_cons (e_ix (v_ 0 (by kernel_rfl) rfl) (e_int)) (l_nil))) (kbd_pos cf C rfl rfl) rfl (gl_ (by kernel_rfl)) M.m_looks_of)))
    (ss_nil))
    (ss_nil))
    (ss_cons (s_ret (e_bi (b_max C.calm) (gl_ (by kernel_rfl)) M.b_max (by rfl) (l_cons (e_comp C (i_seq (e_slc (v_ 0 (by kernel_rfl) rfl) (o_some (e_int)) (o_none))) (blkOk_by (own := [("part", 1)]) (by kernel_rfl)) rfl (fun s1 H1 D1 cl1 fp1 => gv_ 1 (C.blk s1 H1 _ D1 cl1 fp1).nd (by kernel_rfl) rfl) (fun s1 H1 D1 cl1 fp1 => ts_nil) (fun s1 H1 D1 cl1 fp1 => e_call (C.blk s1 H1 _ D1 cl1 fp1) cf (f := 11) (by rfl) (ak_pos (l_cons (v_ 1 (by kernel_rfl) rfl) (l_nil))) (kbd_pos cf (C.blk s1 H1 _ D1 cl1 fp1) rfl rfl) rfl (gl_ (by kernel_rfl)) M.m_looks_of)) (l_nil))))
    (ss_nil)))
theorem sc12 : FnScope N12 ["self", "root"] (defScope (inClass (top 22) 0)) := ⟨rfl, rfl, rfl, by decide +kernel, rfl, by decide +kernel, by decide +kernel⟩
theorem w12 {T : Wd} {n : Nat} (M : Nm T) (K : Kb T) (cf : ClF (pd.G T.K) T.K) {qual : Str} {f : Addr} {cdv : Value} {A : Around} {outer : List Env} {s : Shared} {H : Hp} {X0 : XK} (C : Cn (pd.G T.K) n (T.cx N12 qual (defScope (inClass (top 22) 0)) f cdv A outer s H X0) (fun c d _ H => X0 c d H)) :
    PSs (T.cx N12 qual (defScope (inClass (top 22) 0)) f cdv A outer s H X0) (defBody (inClass (top 22) 0)) (tSs (pd.G T.K) n (T.cx N12 qual (defScope (inClass (top 22) 0)) f cdv A outer s H X0) (fun c d _ H => X0 c d H) d12.body) :=
    ss_cons (s_asg (e_call C cf (f := 9) (by rfl) (ak_pos (l_cons (v_ 1 (by kernel_rfl) rfl) (l_nil))) (kbd_pos cf C rfl rfl) rfl (gl_ (by kernel_rfl)) M.m_items_of) (gv_ 2 C.nd (by kernel_rfl) rfl))
    (ss_cons (s_ite (t_cmp o_gt (e_bi b_len (gl_ (by kernel_rfl)) M.b_len (by rfl) (l_cons (v_ 2 (by kernel_rfl) rfl) (l_nil))) (gi_ 1 (gl_ (by kernel_rfl)) M.m_MOST_ITEMS rfl (by kernel_rfl)) (by kernel_rfl))
    (ss_cons (s_raise C (fs := [17, 18]) (by rfl) (l_cons (e_str) (l_cons (gi_ 1 (gl_ (by kernel_rfl)) M.m_MOST_ITEMS rfl (by kernel_rfl)) (l_nil))) (gl_ (by kernel_rfl)) M.m_TooMany)
    (ss_nil))
    (ss_nil))
    (ss_cons (s_fld cf (v_ 0 (by kernel_rfl) rfl) (v_ 1 (by kernel_rfl) rfl) rfl)
    (ss_cons (s_fld cf (v_ 0 (by kernel_rfl) rfl) (e_bm PySem.F.plainAttrs_str PySem.F.slot_str_join PySem.F.type_str_join m_join (fun a b c => ty_str (is_str (by simp)) a b c) (e_str) (l_cons (v_ 2 (by kernel_rfl) rfl) (l_nil))) rfl)
    (ss_cons (s_fld cf (v_ 0 (by kernel_rfl) rfl) (e_ty b_tuple (gl_ (by kernel_rfl)) M.b_tuple (by rfl) (l_cons (e_bi (b_sorted C.calm) (gl_ (by kernel_rfl)) M.b_sorted (by rfl) (l_cons (e_ty (b_set C.calm) (gl_ (by kernel_rfl)) M.b_set (by rfl) (l_cons (e_call C cf (f := 10) (by rfl) (ak_pos (l_cons (v_ 1 (by kernel_rfl) rfl) (l_nil))) (kbd_pos cf C rfl rfl) rfl (gl_ (by kernel_rfl)) M.m_free_of) (l_nil))) (l_nil))) (l_nil))) rfl)
    (ss_cons (s_fld cf (v_ 0 (by kernel_rfl) rfl) (e_call C cf (f := 11) (by rfl) (ak_pos (l_cons (v_ 1 (by kernel_rfl) rfl) (l_nil))) (kbd_pos cf C rfl rfl) rfl (gl_ (by kernel_rfl)) M.m_looks_of) rfl)
    (ss_cons (s_fld cf (v_ 0 (by kernel_rfl) rfl) (e_cmp (o_eq C cf) (e_fld0 cf (v_ 0 (by kernel_rfl) rfl) rfl) (e_tup (l_nil)) (by kernel_rfl)) rfl)
    (ss_nil)))))))
theorem sc13 : FnScope N13 ["text"] (defScope (inClass (top 22) 1)) := ⟨rfl, rfl, rfl, by decide +kernel, rfl, by decide +kernel, by decide +kernel⟩
theorem w13 {T : Wd} {n : Nat} (M : Nm T) (K : Kb T) (cf : ClF (pd.G T.K) T.K) {qual : Str} {f : Addr} {cdv : Value} {A : Around} {outer : List Env} {s : Shared} {H : Hp} {X0 : XK} (C : Cn (pd.G T.K) n (T.cx N13 qual (defScope (inClass (top 22) 1)) f cdv A outer s H X0) (fun c d _ H => X0 c d H)) :
    PSs (T.cx N13 qual (defScope (inClass (top 22) 1)) f cdv A outer s H X0) (defBody (inClass (top 22) 1)) (tSs (pd.G T.K) n (T.cx N13 qual (defScope (inClass (top 22) 1)) f cdv A outer s H X0) (fun c d _ H => X0 c d H) d13.body) :=
    ss_cons (s_asg (e_new C cf (f := 0) (by rfl) (by rfl) (ak_pos (l_cons (v_ 0 (by kernel_rfl) rfl) (l_nil))) (kbd_pos cf C rfl rfl) rfl (gl_ (by kernel_rfl)) M.m_Scan) (gv_ 1 C.nd (by kernel_rfl) rfl))
    (ss_cons (s_asg (e_call C cf (f := 8) (by rfl) (ak_pos (l_cons (v_ 1 (by kernel_rfl) rfl) (l_cons (e_int) (l_nil)))) (kbd_pos cf C rfl rfl) rfl (gl_ (by kernel_rfl)) M.m_take_root) (gv_ 2 C.nd (by kernel_rfl) rfl))
    (ss_cons (s_ex (e_meth C cf (v_ 1 (by kernel_rfl) rfl) rfl (ak_nil) (K.mk_finish_0_) rfl))
    (ss_cons (s_ret (e_new C cf (f := 12) (by rfl) (by rfl) (ak_pos (l_cons (v_ 2 (by kernel_rfl) rfl) (l_nil))) (kbd_pos cf C rfl rfl) rfl (gl_ (by kernel_rfl)) M.m_Question))
    (ss_nil))))
theorem sc14 : FnScope N14 ["self"] (defScope (inClass (top 22) 2)) := ⟨rfl, rfl, rfl, by decide +kernel, rfl, by decide +kernel, by decide +kernel⟩
theorem w14 {T : Wd} {n : Nat} (M : Nm T) (K : Kb T) (cf : ClF (pd.G T.K) T.K) {qual : Str} {f : Addr} {cdv : Value} {A : Around} {outer : List Env} {s : Shared} {H : Hp} {X0 : XK} (C : Cn (pd.G T.K) n (T.cx N14 qual (defScope (inClass (top 22) 2)) f cdv A outer s H X0) (fun c d _ H => X0 c d H)) :
    PSs (T.cx N14 qual (defScope (inClass (top 22) 2)) f cdv A outer s H X0) (defBody (inClass (top 22) 2)) (tSs (pd.G T.K) n (T.cx N14 qual (defScope (inClass (top 22) 2)) f cdv A outer s H X0) (fun c d _ H => X0 c d H) d14.body) :=
    ss_cons (s_ret (e_new C cf (f := 12) (by rfl) (by rfl) (ak_pos (l_cons (e_tup (l_cons (gs_ 7 (gl_ (by kernel_rfl)) M.m_NEGATION rfl (by kernel_rfl)) (l_cons (e_fld0 cf (v_ 0 (by kernel_rfl) rfl) rfl) (l_nil)))) (l_nil))) (kbd_pos cf C rfl rfl) rfl (gl_ (by kernel_rfl)) M.m_Question))
    (ss_nil)
theorem sc15 : FnScope N15 ["self", "other"] (defScope (inClass (top 22) 3)) := ⟨rfl, rfl, rfl, by decide +kernel, rfl, by decide +kernel, by decide +kernel⟩
theorem w15 {T : Wd} {n : Nat} (M : Nm T) (K : Kb T) (cf : ClF (pd.G T.K) T.K) {qual : Str} {f : Addr} {cdv : Value} {A : Around} {outer : List Env} {s : Shared} {H : Hp} {X0 : XK} (C : Cn (pd.G T.K) n (T.cx N15 qual (defScope (inClass (top 22) 3)) f cdv A outer s H X0) (fun c d _ H => X0 c d H)) :
    PSs (T.cx N15 qual (defScope (inClass (top 22) 3)) f cdv A outer s H X0) (defBody (inClass (top 22) 3)) (tSs (pd.G T.K) n (T.cx N15 qual (defScope (inClass (top 22) 3)) f cdv A outer s H X0) (fun c d _ H => X0 c d H) d15.body) :=
    ss_cons (s_ex (e_call C cf (f := 7) (by rfl) (ak_pos (l_cons (v_ 1 (by kernel_rfl) rfl) (l_cons (e_str) (l_nil)))) (kbd_pos cf C rfl rfl) rfl (gl_ (by kernel_rfl)) M.m_need_question))
    (ss_cons (s_ret (e_new C cf (f := 12) (by rfl) (by rfl) (ak_pos (l_cons (e_tup (l_cons (e_str) (l_cons (e_fld0 cf (v_ 0 (by kernel_rfl) rfl) rfl) (l_cons (e_fld0 cf (v_ 1 (by kernel_rfl) rfl) rfl) (l_nil))))) (l_nil))) (kbd_pos cf C rfl rfl) rfl (gl_ (by kernel_rfl)) M.m_Question))
    (ss_nil))
theorem sc16 : FnScope N16 ["self", "other"] (defScope (inClass (top 22) 4)) := ⟨rfl, rfl, rfl, by decide +kernel, rfl, by decide +kernel, by decide +kernel⟩
theorem w16 {T : Wd} {n : Nat} (M : Nm T) (K : Kb T) (cf : ClF (pd.G T.K) T.K) {qual : Str} {f : Addr} {cdv : Value} {A : Around} {outer : List Env} {s : Shared} {H : Hp} {X0 : XK} (C : Cn (pd.G T.K) n (T.cx N16 qual (defScope (inClass (top 22) 4)) f cdv A outer s H X0) (fun c d _ H => X0 c d H)) :
    PSs (T.cx N16 qual (defScope (inClass (top 22) 4)) f cdv A outer s H X0) (defBody (inClass (top 22) 4)) (tSs (pd.G T.K) n (T.cx N16 qual (defScope (inClass (top 22) 4)) f cdv A outer s H X0) (fun c d _ H => X0 c d H) d16.body) :=
    ss_cons (s_ex (e_call C cf (f := 7) (by rfl) (ak_pos (l_cons (v_ 1 (by kernel_rfl) rfl) (l_cons (e_str) (l_nil)))) (kbd_pos cf C rfl rfl) rfl (gl_ (by kernel_rfl)) M.m_need_question))
    (ss_cons (s_ret (e_new C cf (f := 12) (by rfl) (by rfl) (ak_pos (l_cons (e_tup (l_cons (e_str) (l_cons (e_fld0 cf (v_ 0 (by kernel_rfl) rfl) rfl) (l_cons (e_fld0 cf (v_ 1 (by kernel_rfl) rfl) rfl) (l_nil))))) (l_nil))) (kbd_pos cf C rfl rfl) rfl (gl_ (by kernel_rfl)) M.m_Question))
    (ss_nil))
theorem sc17 : FnScope N17 ["self", "other"] (defScope (inClass (top 22) 6)) := ⟨rfl, rfl, rfl, by decide +kernel, rfl, by decide +kernel, by decide +kernel⟩
theorem w17 {T : Wd} {n : Nat} (M : Nm T) (K : Kb T) (cf : ClF (pd.G T.K) T.K) {qual : Str} {f : Addr} {cdv : Value} {A : Around} {outer : List Env} {s : Shared} {H : Hp} {X0 : XK} (C : Cn (pd.G T.K) n (T.cx N17 qual (defScope (inClass (top 22) 6)) f cdv A outer s H X0) (fun c d _ H => X0 c d H)) :
    PSs (T.cx N17 qual (defScope (inClass (top 22) 6)) f cdv A outer s H X0) (defBody (inClass (top 22) 6)) (tSs (pd.G T.K) n (T.cx N17 qual (defScope (inClass (top 22) 6)) f cdv A outer s H X0) (fun c d _ H => X0 c d H) d17.body) :=
    ss_cons (s_ret (e_and (e_isi1 cf (gl_ (by kernel_rfl)) M.b_isinstance (v_ 1 (by kernel_rfl) rfl) (co_ (gl_ (by kernel_rfl)) M.m_Question)) (e_one (e_cmp (o_eq C cf) (e_fld0 cf (v_ 0 (by kernel_rfl) rfl) rfl) (e_fld0 cf (v_ 1 (by kernel_rfl) rfl) rfl) (by kernel_rfl)))))
    (ss_nil)
theorem sc18 : FnScope N18 ["self"] (defScope (inClass (top 22) 7)) := ⟨rfl, rfl, rfl, by decide +kernel, rfl, by decide +kernel, by decide +kernel⟩
theorem w18 {T : Wd} {n : Nat} (M : Nm T) (K : Kb T) (cf : ClF (pd.G T.K) T.K) {qual : Str} {f : Addr} {cdv : Value} {A : Around} {outer : List Env} {s : Shared} {H : Hp} {X0 : XK} (C : Cn (pd.G T.K) n (T.cx N18 qual (defScope (inClass (top 22) 7)) f cdv A outer s H X0) (fun c d _ H => X0 c d H)) :
    PSs (T.cx N18 qual (defScope (inClass (top 22) 7)) f cdv A outer s H X0) (defBody (inClass (top 22) 7)) (tSs (pd.G T.K) n (T.cx N18 qual (defScope (inClass (top 22) 7)) f cdv A outer s H X0) (fun c d _ H => X0 c d H) d18.body) :=
    ss_cons (s_ret (e_str' C cf (gl_ (by kernel_rfl)) M.b_str (e_fld0 cf (v_ 0 (by kernel_rfl) rfl) rfl)))
    (ss_nil)
theorem sc19 : FnScope N19 ["_law_script"] (defScope (top 24)) := ⟨rfl, rfl, rfl, by decide +kernel, rfl, by decide +kernel, by decide +kernel⟩
theorem w19 {T : Wd} {n : Nat} (M : Nm T) (K : Kb T) (cf : ClF (pd.G T.K) T.K) {qual : Str} {f : Addr} {cdv : Value} {A : Around} {outer : List Env} {s : Shared} {H : Hp} {X0 : XK} (C : Cn (pd.G T.K) n (T.cx N19 qual (defScope (top 24)) f cdv A outer s H X0) (fun c d _ H => X0 c d H)) :
    PSs (T.cx N19 qual (defScope (top 24)) f cdv A outer s H X0) (defBody (top 24)) (tSs (pd.G T.K) n (T.cx N19 qual (defScope (top 24)) f cdv A outer s H X0) (fun c d _ H => X0 c d H) d19.body) :=
    ss_cons (s_ret (e_lst (l_cons (e_comp C (i_seq (e_slc (v_ 0 (by kernel_rfl) rfl) (o_none) (o_some (e_int)))) (blkOk_by (own := [("_law_cell", 1)]) (by kernel_rfl)) rfl (fun s1 H1 D1 cl1 fp1 => gv_ 1 (C.blk s1 H1 _ D1 cl1 fp1).nd (by kernel_rfl) rfl) (fun s1 H1 D1 cl1 fp1 => ts_nil) (fun s1 H1 D1 cl1 fp1 => e_ty b_int (gl_ (by kernel_rfl)) M.b_int (by rfl) (l_cons (v_ 1 (by kernel_rfl) rfl) (l_nil)))) (l_cons (e_int) (l_cons (e_int) (l_nil))))))
    (ss_nil)
theorem sc20 : FnScope N20 ["_law_pen_here", "_law_many"] (defScope (top 25)) := ⟨rfl, rfl, rfl, by decide +kernel, rfl, by decide +kernel, by decide +kernel⟩
theorem w20 {T : Wd} {n : Nat} (M : Nm T) (K : Kb T) (cf : ClF (pd.G T.K) T.K) {qual : Str} {f : Addr} {cdv : Value} {A : Around} {outer : List Env} {s : Shared} {H : Hp} {X0 : XK} (C : Cn (pd.G T.K) n (T.cx N20 qual (defScope (top 25)) f cdv A outer s H X0) (fun c d _ H => X0 c d H)) :
    PSs (T.cx N20 qual (defScope (top 25)) f cdv A outer s H X0) (defBody (top 25)) (tSs (pd.G T.K) n (T.cx N20 qual (defScope (top 25)) f cdv A outer s H X0) (fun c d _ H => X0 c d H) d20.body) :=
    ss_cons (s_asg (e_ty b_int (gl_ (by kernel_rfl)) M.b_int (by rfl) (l_cons (e_ix (v_ 0 (by kernel_rfl) rfl) (e_int)) (l_nil))) (gv_ 2 C.nd (by kernel_rfl) rfl))
    (ss_cons (s_ite (t_cmp o_gt (v_ 2 (by kernel_rfl) rfl) (e_int) (by kernel_rfl))
    (ss_cons (s_sub (v_ 0 (by kernel_rfl) rfl) (e_int) (e_bin o_fdiv (v_ 2 (by kernel_rfl) rfl) (v_ 1 (by kernel_rfl) rfl)))
    (ss_cons (s_ret (e_bin o_mod (v_ 2 (by kernel_rfl) rfl) (v_ 1 (by kernel_rfl) rfl)))
    (ss_nil)))
    (ss_nil))
    (ss_cons (s_asg (e_ix (v_ 0 (by kernel_rfl) rfl) (e_int)) (gv_ 3 C.nd (by kernel_rfl) rfl))
    (ss_cons (s_sub (v_ 0 (by kernel_rfl) rfl) (e_int) (e_bin o_add (v_ 3 (by kernel_rfl) rfl) (e_int)))
    (ss_cons (s_asg (e_bin o_add (e_bin o_mul (e_int) (v_ 3 (by kernel_rfl) rfl)) (e_int)) (gv_ 4 C.nd (by kernel_rfl) rfl))
    (ss_cons (s_ite (t_cmp (o_ne C cf) (e_ix (v_ 0 (by kernel_rfl) rfl) (e_int)) (e_lst (l_nil)) (by kernel_rfl))
    (ss_cons (s_asg (e_ix (e_ix (v_ 0 (by kernel_rfl) rfl) (e_int)) (e_bin o_mod (e_ty b_int (gl_ (by kernel_rfl)) M.b_int (by rfl) (l_cons (v_ 3 (by kernel_rfl) rfl) (l_nil))) (e_bi b_len (gl_ (by kernel_rfl)) M.b_len (by rfl) (l_cons (e_ix (v_ 0 (by kernel_rfl) rfl) (e_int)) (l_nil))))) (gv_ 4 C.nd (by kernel_rfl) rfl))
    (ss_nil))
    (ss_nil))
    (ss_cons (s_ite (PW.pt (w_and (t_cmp o_lt (v_ 3 (by kernel_rfl) rfl) (e_bi b_len (gl_ (by kernel_rfl)) M.b_len (by rfl) (l_cons (e_ix (v_ 0 (by kernel_rfl) rfl) (e_int)) (l_nil))) (by kernel_rfl)) (w_one (t_cmp o_ge (e_bi b_abs (gl_ (by kernel_rfl)) M.b_abs (by rfl) (l_cons (v_ 4 (by kernel_rfl) rfl) (l_nil))) (e_bin o_pow (e_int) (e_int)) (by kernel_rfl)))))
    (ss_cons (s_asg (e_bin o_add (e_bin o_mul (e_int) (e_bin o_sub (e_bi b_abs (gl_ (by kernel_rfl)) M.b_abs (by rfl) (l_cons (v_ 4 (by kernel_rfl) rfl) (l_nil))) (e_bin o_pow (e_int) (e_int)))) (e_ty b_int (gl_ (by kernel_rfl)) M.b_int (by rfl) (l_cons (e_cmp o_lt (v_ 4 (by kernel_rfl) rfl) (e_int) (by kernel_rfl)) (l_nil)))) (gv_ 2 C.nd (by kernel_rfl) rfl))
    (ss_cons (s_sub (v_ 0 (by kernel_rfl) rfl) (e_int) (e_bin o_fdiv (v_ 2 (by kernel_rfl) rfl) (v_ 1 (by kernel_rfl) rfl)))
    (ss_cons (s_ret (e_bin o_mod (v_ 2 (by kernel_rfl) rfl) (v_ 1 (by kernel_rfl) rfl)))
    (ss_nil))))
    (ss_nil))
    (ss_cons (s_asg (e_bin o_mod (e_ty b_int (gl_ (by kernel_rfl)) M.b_int (by rfl) (l_cons (e_bin o_pow (e_bin o_add (e_bin o_add (e_bin o_mod (e_ty b_int (gl_ (by kernel_rfl)) M.b_int (by rfl) (l_cons (v_ 4 (by kernel_rfl) rfl) (l_nil))) (e_int)) (e_bin o_mul (e_int) (v_ 3 (by kernel_rfl) rfl))) (e_int)) (e_int)) (l_nil))) (e_int)) (gv_ 5 C.nd (by kernel_rfl) rfl))
    (ss_cons (s_asg (e_bin o_mod (e_ty b_int (gl_ (by kernel_rfl)) M.b_int (by rfl) (l_cons (e_bin o_pow (e_bin o_add (e_bin o_add (e_bin o_mul (v_ 5 (by kernel_rfl) rfl) (e_bin o_add (e_bin o_mul (e_int) (v_ 3 (by kernel_rfl) rfl)) (e_int))) (e_bin o_mul (e_bin o_mul (e_int) (v_ 3 (by kernel_rfl) rfl)) (v_ 3 (by kernel_rfl) rfl))) (e_int)) (e_int)) (l_nil))) (e_int)) (gv_ 5 C.nd (by kernel_rfl) rfl))
    (ss_cons (s_ret (e_bin o_mod (e_ty b_int (gl_ (by kernel_rfl)) M.b_int (by rfl) (l_cons (e_bin o_fdiv (v_ 5 (by kernel_rfl) rfl) (e_int)) (l_nil))) (v_ 1 (by kernel_rfl) rfl)))
    (ss_nil))))))))))
theorem sc21 : FnScope N21 ["_law_pen_here", "_law_some"] (defScope (top 26)) := ⟨rfl, rfl, rfl, by decide +kernel, rfl, by decide +kernel, by decide +kernel⟩
theorem w21 {T : Wd} {n : Nat} (M : Nm T) (K : Kb T) (cf : ClF (pd.G T.K) T.K) {qual : Str} {f : Addr} {cdv : Value} {A : Around} {outer : List Env} {s : Shared} {H : Hp} {X0 : XK} (C : Cn (pd.G T.K) n (T.cx N21 qual (defScope (top 26)) f cdv A outer s H X0) (fun c d _ H => X0 c d H)) :
    PSs (T.cx N21 qual (defScope (top 26)) f cdv A outer s H X0) (defBody (top 26)) (tSs (pd.G T.K) n (T.cx N21 qual (defScope (top 26)) f cdv A outer s H X0) (fun c d _ H => X0 c d H) d21.body) :=
    ss_cons (s_ret (e_ix (v_ 1 (by kernel_rfl) rfl) (e_call C cf (f := 20) (by rfl) (ak_pos (l_cons (v_ 0 (by kernel_rfl) rfl) (l_cons (e_bi b_len (gl_ (by kernel_rfl)) M.b_len (by rfl) (l_cons (v_ 1 (by kernel_rfl) rfl) (l_nil))) (l_nil)))) (kbd_pos cf C rfl rfl) rfl (gl_ (by kernel_rfl)) M.m__law_draw)))
    (ss_nil)
theorem sc22 : FnScope N22 ["_law_pen_here"] (defScope (top 27)) := ⟨rfl, rfl, rfl, by decide +kernel, rfl, by decide +kernel, by decide +kernel⟩
theorem w22 {T : Wd} {n : Nat} (M : Nm T) (K : Kb T) (cf : ClF (pd.G T.K) T.K) {qual : Str} {f : Addr} {cdv : Value} {A : Around} {outer : List Env} {s : Shared} {H : Hp} {X0 : XK} (C : Cn (pd.G T.K) n (T.cx N22 qual (defScope (top 27)) f cdv A outer s H X0) (fun c d _ H => X0 c d H)) :
    PSs (T.cx N22 qual (defScope (top 27)) f cdv A outer s H X0) (defBody (top 27)) (tSs (pd.G T.K) n (T.cx N22 qual (defScope (top 27)) f cdv A outer s H X0) (fun c d _ H => X0 c d H) d22.body) :=
    ss_cons (s_ret (e_call C cf (f := 21) (by rfl) (ak_pos (l_cons (v_ 0 (by kernel_rfl) rfl) (l_cons (e_lst (l_cons (e_str) (l_cons (e_str) (l_cons (e_str) (l_nil))))) (l_nil)))) (kbd_pos cf C rfl rfl) rfl (gl_ (by kernel_rfl)) M.m__law_one_of))
    (ss_nil)
theorem sc23 : FnScope N23 ["_law_pen_here", "_law_room", "_law_looks"] (defScope (top 28)) := ⟨rfl, rfl, rfl, by decide +kernel, rfl, by decide +kernel, by decide +kernel⟩
theorem w23 {T : Wd} {n : Nat} (M : Nm T) (K : Kb T) (cf : ClF (pd.G T.K) T.K) {qual : Str} {f : Addr} {cdv : Value} {A : Around} {outer : List Env} {s : Shared} {H : Hp} {X0 : XK} (C : Cn (pd.G T.K) n (T.cx N23 qual (defScope (top 28)) f cdv A outer s H X0) (fun c d _ H => X0 c d H)) :
    PSs (T.cx N23 qual (defScope (top 28)) f cdv A outer s H X0) (defBody (top 28)) (tSs (pd.G T.K) n (T.cx N23 qual (defScope (top 28)) f cdv A outer s H X0) (fun c d _ H => X0 c d H) d23.body) :=
    ss_cons (s_asg (e_lst (l_cons (e_str) (l_cons (e_str) (l_nil)))) (gv_ 3 C.nd (by kernel_rfl) rfl))
    (ss_cons (s_ite (t_cmp o_gt (v_ 1 (by kernel_rfl) rfl) (e_int) (by kernel_rfl))
    (ss_cons (s_asg (e_bin o_add (v_ 3 (by kernel_rfl) rfl) (e_lst (l_cons (e_str) (l_nil)))) (gv_ 3 C.nd (by kernel_rfl) rfl))
    (ss_nil))
    (ss_nil))
    (ss_cons (s_ite (PW.pt (w_and (t_cmp o_gt (v_ 1 (by kernel_rfl) rfl) (e_int) (by kernel_rfl)) (w_one (t_cmp o_gt (v_ 2 (by kernel_rfl) rfl) (e_int) (by kernel_rfl)))))
    (ss_cons (s_asg (e_bin o_add (v_ 3 (by kernel_rfl) rfl) (e_lst (l_cons (e_str) (l_cons (e_str) (l_cons (e_str) (l_cons (e_str) (l_nil))))))) (gv_ 3 C.nd (by kernel_rfl) rfl))
    (ss_nil))
    (ss_nil))
    (ss_cons (s_ite (t_cmp o_gt (v_ 1 (by kernel_rfl) rfl) (e_int) (by kernel_rfl))
    (ss_cons (s_asg (e_bin o_add (v_ 3 (by kernel_rfl) rfl) (e_lst (l_cons (e_str) (l_cons (e_str) (l_cons (e_str) (l_cons (e_str) (l_nil))))))) (gv_ 3 C.nd (by kernel_rfl) rfl))
    (ss_nil))
    (ss_nil))
    (ss_cons (s_asg (e_call C cf (f := 21) (by rfl) (ak_pos (l_cons (v_ 0 (by kernel_rfl) rfl) (l_cons (v_ 3 (by kernel_rfl) rfl) (l_nil)))) (kbd_pos cf C rfl rfl) rfl (gl_ (by kernel_rfl)) M.m__law_one_of) (gv_ 4 C.nd (by kernel_rfl) rfl))
    (ss_cons (s_ite (t_cmp (o_in C) (v_ 4 (by kernel_rfl) rfl) (e_tup (l_cons (e_str) (l_cons (e_str) (l_nil)))) (by kernel_rfl))
    (ss_cons (s_ret (e_lst (l_cons (v_ 4 (by kernel_rfl) rfl) (l_cons (e_call C cf (f := 22) (by rfl) (ak_pos (l_cons (v_ 0 (by kernel_rfl) rfl) (l_nil))) (kbd_pos cf C rfl rfl) rfl (gl_ (by kernel_rfl)) M.m__law_letter) (l_cons (e_call C cf (f := 22) (by rfl) (ak_pos (l_cons (v_ 0 (by kernel_rfl) rfl) (l_nil))) (kbd_pos cf C rfl rfl) rfl (gl_ (by kernel_rfl)) M.m__law_letter) (l_nil))))))
    (ss_nil))
    (ss_nil))
    (ss_cons (s_ite (t_cmp (o_eq C cf) (v_ 4 (by kernel_rfl) rfl) (e_str) (by kernel_rfl))
    (ss_cons (s_ret (e_bin o_add (e_lst (l_cons (v_ 4 (by kernel_rfl) rfl) (l_nil))) (e_call C cf (f := 23) (by rfl) (ak_pos (l_cons (v_ 0 (by kernel_rfl) rfl) (l_cons (e_bin o_sub (v_ 1 (by kernel_rfl) rfl) (e_int)) (l_cons (v_ 2 (by kernel_rfl) rfl) (l_nil))))) (kbd_pos cf C rfl rfl) rfl (gl_ (by kernel_rfl)) M.m__law_items)))
    (ss_nil))
    (ss_nil))
    (ss_cons (s_ite (t_cmp (o_in C) (v_ 4 (by kernel_rfl) rfl) (e_tup (l_cons (e_str) (l_cons (e_str) (l_nil)))) (by kernel_rfl))
    (ss_cons (s_ret (e_bin o_add (e_lst (l_cons (v_ 4 (by kernel_rfl) rfl) (l_cons (e_call C cf (f := 22) (by rfl) (ak_pos (l_cons (v_ 0 (by kernel_rfl) rfl) (l_nil))) (kbd_pos cf C rfl rfl) rfl (gl_ (by kernel_rfl)) M.m__law_letter) (l_nil)))) (e_call C cf (f := 23) (by rfl) (ak_pos (l_cons (v_ 0 (by kernel_rfl) rfl) (l_cons (e_bin o_sub (v_ 1 (by kernel_rfl) rfl) (e_int)) (l_cons (e_bin o_sub (v_ 2 (by kernel_rfl) rfl) (e_int)) (l_nil))))) (kbd_pos cf C rfl rfl) rfl (gl_ (by kernel_rfl)) M.m__law_items)))
    (ss_nil))
    (ss_nil))
    (ss_cons (s_asg (e_call C cf (f := 23) (by rfl) (ak_pos (l_cons (v_ 0 (by kernel_rfl) rfl) (l_cons (e_bin o_add (e_int) (e_call C cf (f := 20) (by rfl) (ak_pos (l_cons (v_ 0 (by kernel_rfl) rfl) (l_cons (e_bin o_sub (v_ 1 (by kernel_rfl) rfl) (e_int)) (l_nil)))) (kbd_pos cf C rfl rfl) rfl (gl_ (by kernel_rfl)) M.m__law_draw)) (l_cons (v_ 2 (by kernel_rfl) rfl) (l_nil))))) (kbd_pos cf C rfl rfl) rfl (gl_ (by kernel_rfl)) M.m__law_items) (gv_ 5 C.nd (by kernel_rfl) rfl))
    (ss_cons (s_ret (e_bin o_add (e_bin o_add (e_lst (l_cons (v_ 4 (by kernel_rfl) rfl) (l_nil))) (v_ 5 (by kernel_rfl) rfl)) (e_call C cf (f := 23) (by rfl) (ak_pos (l_cons (v_ 0 (by kernel_rfl) rfl) (l_cons (e_bin o_sub (e_bin o_sub (v_ 1 (by kernel_rfl) rfl) (e_int)) (e_bi b_len (gl_ (by kernel_rfl)) M.b_len (by rfl) (l_cons (v_ 5 (by kernel_rfl) rfl) (l_nil)))) (l_cons (v_ 2 (by kernel_rfl) rfl) (l_nil))))) (kbd_pos cf C rfl rfl) rfl (gl_ (by kernel_rfl)) M.m__law_items)))
    (ss_nil))))))))))
theorem sc24 : FnScope N24 ["_law_pen_here"] (defScope (top 29)) := ⟨rfl, rfl, rfl, by decide +kernel, rfl, by decide +kernel, by decide +kernel⟩
theorem w24 {T : Wd} {n : Nat} (M : Nm T) (K : Kb T) (cf : ClF (pd.G T.K) T.K) {qual : Str} {f : Addr} {cdv : Value} {A : Around} {outer : List Env} {s : Shared} {H : Hp} {X0 : XK} (C : Cn (pd.G T.K) n (T.cx N24 qual (defScope (top 29)) f cdv A outer s H X0) (fun c d _ H => X0 c d H)) :
    PSs (T.cx N24 qual (defScope (top 29)) f cdv A outer s H X0) (defBody (top 29)) (tSs (pd.G T.K) n (T.cx N24 qual (defScope (top 29)) f cdv A outer s H X0) (fun c d _ H => X0 c d H) d24.body) :=
    ss_cons (s_asg (e_call C cf (f := 21) (by rfl) (ak_pos (l_cons (v_ 0 (by kernel_rfl) rfl) (l_cons (e_lst (l_cons (e_int) (l_cons (e_int) (l_cons (e_int) (l_cons (e_int) (l_cons (e_int) (l_cons (e_int) (l_nil)))))))) (l_nil)))) (kbd_pos cf C rfl rfl) rfl (gl_ (by kernel_rfl)) M.m__law_one_of) (gv_ 1 C.nd (by kernel_rfl) rfl))
    (ss_cons (s_asg (e_call C cf (f := 20) (by rfl) (ak_pos (l_cons (v_ 0 (by kernel_rfl) rfl) (l_cons (e_int) (l_nil)))) (kbd_pos cf C rfl rfl) rfl (gl_ (by kernel_rfl)) M.m__law_draw) (gv_ 2 C.nd (by kernel_rfl) rfl))
    (ss_cons (s_ite (t_cmp (o_eq C cf) (v_ 2 (by kernel_rfl) rfl) (e_int) (by kernel_rfl))
    (ss_cons (s_asg (e_call C cf (f := 23) (by rfl) (ak_pos (l_cons (v_ 0 (by kernel_rfl) rfl) (l_cons (e_bin o_add (e_int) (e_call C cf (f := 20) (by rfl) (ak_pos (l_cons (v_ 0 (by kernel_rfl) rfl) (l_cons (e_int) (l_nil)))) (kbd_pos cf C rfl rfl) rfl (gl_ (by kernel_rfl)) M.m__law_draw)) (l_cons (e_int) (l_nil))))) (kbd_pos cf C rfl rfl) rfl (gl_ (by kernel_rfl)) M.m__law_items) (gv_ 3 C.nd (by kernel_rfl) rfl))
    (ss_cons (s_whl C (t_cmp o_le (e_bin o_add (e_bi b_len (gl_ (by kernel_rfl)) M.b_len (by rfl) (l_cons (v_ 3 (by kernel_rfl) rfl) (l_nil))) (e_int)) (v_ 1 (by kernel_rfl) rfl) (by kernel_rfl))
    (ss_cons (s_asg (e_bin o_add (e_lst (l_cons (e_call C cf (f := 21) (by rfl) (ak_pos (l_cons (v_ 0 (by kernel_rfl) rfl) (l_cons (e_lst (l_cons (e_str) (l_cons (e_str) (l_nil)))) (l_nil)))) (kbd_pos cf C rfl rfl) rfl (gl_ (by kernel_rfl)) M.m__law_one_of) (l_cons (e_call C cf (f := 22) (by rfl) (ak_pos (l_cons (v_ 0 (by kernel_rfl) rfl) (l_nil))) (kbd_pos cf C rfl rfl) rfl (gl_ (by kernel_rfl)) M.m__law_letter) (l_nil)))) (v_ 3 (by kernel_rfl) rfl)) (gv_ 3 C.nd (by kernel_rfl) rfl))
    (ss_nil)))
    (ss_cons (s_ret (v_ 3 (by kernel_rfl) rfl))
    (ss_nil))))
    (ss_nil))
    (ss_cons (s_asg (e_call C cf (f := 23) (by rfl) (ak_pos (l_cons (v_ 0 (by kernel_rfl) rfl) (l_cons (v_ 1 (by kernel_rfl) rfl) (l_cons (e_call C cf (f := 21) (by rfl) (ak_pos (l_cons (v_ 0 (by kernel_rfl) rfl) (l_cons (e_lst (l_cons (e_int) (l_cons (e_int) (l_cons (e_int) (l_cons (e_int) (l_cons (e_int) (l_cons (e_int) (l_nil)))))))) (l_nil)))) (kbd_pos cf C rfl rfl) rfl (gl_ (by kernel_rfl)) M.m__law_one_of) (l_nil))))) (kbd_pos cf C rfl rfl) rfl (gl_ (by kernel_rfl)) M.m__law_items) (gv_ 3 C.nd (by kernel_rfl) rfl))
    (ss_cons (s_ite (t_cmp (o_eq C cf) (v_ 2 (by kernel_rfl) rfl) (e_int) (by kernel_rfl))
    (ss_cons (s_asg (e_bi (b_max C.calm) (gl_ (by kernel_rfl)) M.b_max (by rfl) (l_cons (e_bi b_len (gl_ (by kernel_rfl)) M.b_len (by rfl) (l_cons (v_ 3 (by kernel_rfl) rfl) (l_nil))) (l_cons (e_call C cf (f := 21) (by rfl) (ak_pos (l_cons (v_ 0 (by kernel_rfl) rfl) (l_cons (e_lst (l_cons (e_int) (l_cons (e_int) (l_cons (e_int) (l_cons (e_int) (l_nil)))))) (l_nil)))) (kbd_pos cf C rfl rfl) rfl (gl_ (by kernel_rfl)) M.m__law_one_of) (l_nil)))) (gv_ 4 C.nd (by kernel_rfl) rfl))
    (ss_cons (s_ret (e_bin o_add (e_bin o_mul (e_lst (l_cons (e_str) (l_nil))) (e_bin o_sub (v_ 4 (by kernel_rfl) rfl) (e_bi b_len (gl_ (by kernel_rfl)) M.b_len (by rfl) (l_cons (v_ 3 (by kernel_rfl) rfl) (l_nil))))) (v_ 3 (by kernel_rfl) rfl)))
    (ss_nil)))
    (ss_nil))
    (ss_cons (s_ret (v_ 3 (by kernel_rfl) rfl))
    (ss_nil))))))
theorem sc25 : FnScope N25 ["_law_items_here"] (defScope (top 30)) := ⟨rfl, rfl, rfl, by decide +kernel, rfl, by decide +kernel, by decide +kernel⟩
theorem w25 {T : Wd} {n : Nat} (M : Nm T) (K : Kb T) (cf : ClF (pd.G T.K) T.K) {qual : Str} {f : Addr} {cdv : Value} {A : Around} {outer : List Env} {s : Shared} {H : Hp} {X0 : XK} (C : Cn (pd.G T.K) n (T.cx N25 qual (defScope (top 30)) f cdv A outer s H X0) (fun c d _ H => X0 c d H)) :
    PSs (T.cx N25 qual (defScope (top 30)) f cdv A outer s H X0) (defBody (top 30)) (tSs (pd.G T.K) n (T.cx N25 qual (defScope (top 30)) f cdv A outer s H X0) (fun c d _ H => X0 c d H) d25.body) :=
    ss_cons (s_asg (e_lst (l_nil)) (gv_ 1 C.nd (by kernel_rfl) rfl))
    (ss_cons (s_for C (i_seq (e_rev (v_ 0 (by kernel_rfl) rfl))) (gv_ 2 C.nd (by kernel_rfl) rfl)
    (ss_cons (s_ite (t_cmp (o_in C) (v_ 2 (by kernel_rfl) rfl) (e_tup (l_cons (e_str) (l_cons (e_str) (l_cons (e_str) (l_nil))))) (by kernel_rfl))
    (ss_cons (s_ex (e_bm PySem.F.plainAttrs_list PySem.F.slot_list_append PySem.F.type_list_append m_append (fun a b c => ty_list (is_lst (by simp)) a b c) (v_ 1 (by kernel_rfl) rfl) (l_cons (v_ 2 (by kernel_rfl) rfl) (l_nil))))
    (ss_nil))
    (ss_cons (s_ite (t_cmp (o_in C) (v_ 2 (by kernel_rfl) rfl) (e_tup (l_cons (e_str) (l_cons (e_str) (l_nil)))) (by kernel_rfl))
    (ss_cons (s_par (i := 3) (j := 4) C rfl rfl (by decide) (by kernel_rfl) (by kernel_rfl) (l_cons (e_bm0 PySem.F.plainAttrs_list PySem.F.slot_list_pop PySem.F.type_list_pop m_pop (fun a b c => ty_list (is_lst (by simp)) a b c) (v_ 1 (by kernel_rfl) rfl)) (l_cons (e_bm0 PySem.F.plainAttrs_list PySem.F.slot_list_pop PySem.F.type_list_pop m_pop (fun a b c => ty_list (is_lst (by simp)) a b c) (v_ 1 (by kernel_rfl) rfl)) (l_nil))) (by kernel_rfl))
    (ss_cons (s_ex (e_bm PySem.F.plainAttrs_list PySem.F.slot_list_append PySem.F.type_list_append m_append (fun a b c => ty_list (is_lst (by simp)) a b c) (v_ 1 (by kernel_rfl) rfl) (l_cons (e_lst (l_cons (e_lst (l_cons (v_ 3 (by kernel_rfl) rfl) (l_cons (v_ 4 (by kernel_rfl) rfl) (l_nil)))) (l_cons (e_int) (l_nil)))) (l_nil))))
    (ss_nil)))
    (ss_cons (s_ite (t_cmp (o_in C) (v_ 2 (by kernel_rfl) rfl) (e_tup (l_cons (e_str) (l_cons (e_str) (l_nil)))) (by kernel_rfl))
    (ss_cons (s_par (i := 3) (j := 4) C rfl rfl (by decide) (by kernel_rfl) (by kernel_rfl) (l_cons (e_bm0 PySem.F.plainAttrs_list PySem.F.slot_list_pop PySem.F.type_list_pop m_pop (fun a b c => ty_list (is_lst (by simp)) a b c) (v_ 1 (by kernel_rfl) rfl)) (l_cons (e_bm0 PySem.F.plainAttrs_list PySem.F.slot_list_pop PySem.F.type_list_pop m_pop (fun a b c => ty_list (is_lst (by simp)) a b c) (v_ 1 (by kernel_rfl) rfl)) (l_nil))) (by kernel_rfl))
    (ss_cons (s_ex (e_bm PySem.F.plainAttrs_list PySem.F.slot_list_append PySem.F.type_list_append m_append (fun a b c => ty_list (is_lst (by simp)) a b c) (v_ 1 (by kernel_rfl) rfl) (l_cons (e_lst (l_cons (e_bin o_add (e_ix (v_ 3 (by kernel_rfl) rfl) (e_int)) (e_ix (v_ 4 (by kernel_rfl) rfl) (e_int))) (l_cons (e_bi (b_max C.calm) (gl_ (by kernel_rfl)) M.b_max (by rfl) (l_cons (e_ix (v_ 3 (by kernel_rfl) rfl) (e_int)) (l_cons (e_ix (v_ 4 (by kernel_rfl) rfl) (e_int)) (l_nil)))) (l_nil)))) (l_nil))))
    (ss_nil)))
    (ss_cons (s_ite (t_cmp (o_in C) (v_ 2 (by kernel_rfl) rfl) (e_tup (l_cons (e_str) (l_cons (e_str) (l_nil)))) (by kernel_rfl))
    (ss_cons (s_asg (e_tup (l_cons (e_bm0 PySem.F.plainAttrs_list PySem.F.slot_list_pop PySem.F.type_list_pop m_pop (fun a b c => ty_list (is_lst (by simp)) a b c) (v_ 1 (by kernel_rfl) rfl)) (l_cons (e_bm0 PySem.F.plainAttrs_list PySem.F.slot_list_pop PySem.F.type_list_pop m_pop (fun a b c => ty_list (is_lst (by simp)) a b c) (v_ 1 (by kernel_rfl) rfl)) (l_nil)))) (g_tup C.calm (gs_cons (gv_ 5 C.nd (by kernel_rfl) rfl) (gs_cons (gv_ 6 C.nd (by kernel_rfl) rfl) (gs_nil))) rfl))
    (ss_cons (s_ex (e_bm PySem.F.plainAttrs_list PySem.F.slot_list_append PySem.F.type_list_append m_append (fun a b c => ty_list (is_lst (by simp)) a b c) (v_ 1 (by kernel_rfl) rfl) (l_cons (e_lst (l_cons (e_comp C (i_seq (e_ix (v_ 6 (by kernel_rfl) rfl) (e_int))) (blkOk_by (own := [("_law_each", 7)]) (by kernel_rfl)) rfl (fun s1 H1 D1 cl1 fp1 => gv_ 7 (C.blk s1 H1 _ D1 cl1 fp1).nd (by kernel_rfl) rfl) (fun s1 H1 D1 cl1 fp1 => ts_one (t_cmp (o_ne (C.blk s1 H1 _ D1 cl1 fp1) cf) (v_ 7 (by kernel_rfl) rfl) (v_ 5 (by kernel_rfl) rfl) (by kernel_rfl))) (fun s1 H1 D1 cl1 fp1 => v_ 7 (by kernel_rfl) rfl)) (l_cons (e_bin o_add (e_int) (e_ix (v_ 6 (by kernel_rfl) rfl) (e_int))) (l_nil)))) (l_nil))))
    (ss_nil)))
    (ss_nil))
    (ss_nil)))
    (ss_nil)))
    (ss_nil)))
    (ss_nil)))
    (ss_cons (s_ret (e_tup (l_cons (e_ty b_tuple (gl_ (by kernel_rfl)) M.b_tuple (by rfl) (l_cons (e_bi (b_sorted C.calm) (gl_ (by kernel_rfl)) M.b_sorted (by rfl) (l_cons (e_ty (b_set C.calm) (gl_ (by kernel_rfl)) M.b_set (by rfl) (l_cons (e_ix (e_ix (v_ 1 (by kernel_rfl) rfl) (e_int)) (e_int)) (l_nil))) (l_nil))) (l_nil))) (l_cons (e_ix (e_ix (v_ 1 (by kernel_rfl) rfl) (e_int)) (e_int)) (l_nil)))))
    (ss_nil)))
theorem sc26 : FnScope N26 ["_law_question", "_law_items_here"] (defScope (top 31)) := ⟨rfl, rfl, rfl, by decide +kernel, rfl, by decide +kernel, by decide +kernel⟩
theorem w26 {T : Wd} {n : Nat} (M : Nm T) (K : Kb T) (cf : ClF (pd.G T.K) T.K) {qual : Str} {f : Addr} {cdv : Value} {A : Around} {outer : List Env} {s : Shared} {H : Hp} {X0 : XK} (C : Cn (pd.G T.K) n (T.cx N26 qual (defScope (top 31)) f cdv A outer s H X0) (fun c d _ H => X0 c d H)) :
    PSs (T.cx N26 qual (defScope (top 31)) f cdv A outer s H X0) (defBody (top 31)) (tSs (pd.G T.K) n (T.cx N26 qual (defScope (top 31)) f cdv A outer s H X0) (fun c d _ H => X0 c d H) d26.body) :=
    ss_cons (s_asg (e_call C cf (f := 25) (by rfl) (ak_pos (l_cons (v_ 1 (by kernel_rfl) rfl) (l_nil))) (kbd_pos cf C rfl rfl) rfl (gl_ (by kernel_rfl)) M.m__law_told) (g_tup C.calm (gs_cons (gv_ 2 C.nd (by kernel_rfl) rfl) (gs_cons (gv_ 3 C.nd (by kernel_rfl) rfl) (gs_nil))) rfl))
    (ss_cons (s_ite (PW.pt (w_or (t_not (t_val (e_isi1 cf (gl_ (by kernel_rfl)) M.b_isinstance (v_ 0 (by kernel_rfl) rfl) (co_ (gl_ (by kernel_rfl)) M.m_Question)))) (w_one' (t_cmp (o_ne C cf) (e_str' C cf (gl_ (by kernel_rfl)) M.b_str (v_ 0 (by kernel_rfl) rfl)) (e_bm PySem.F.plainAttrs_str PySem.F.slot_str_join PySem.F.type_str_join m_join (fun a b c => ty_str (is_str (by simp)) a b c) (e_str) (l_cons (v_ 1 (by kernel_rfl) rfl) (l_nil))) (by kernel_rfl)))))
    (ss_cons (s_ret (e_bl))
    (ss_nil))
    (ss_nil))
    (ss_cons (s_ite (PW.pt (w_or (t_not (t_val (e_isi1 cf (gl_ (by kernel_rfl)) M.b_isinstance (e_fld0 cf (v_ 0 (by kernel_rfl) rfl) rfl) (cb_ (gl_ (by kernel_rfl)) M.b_tuple (by rfl))))) (w_or (t_cmp (o_ne C cf) (e_fld0 cf (v_ 0 (by kernel_rfl) rfl) rfl) (v_ 2 (by kernel_rfl) rfl) (by kernel_rfl)) (w_one' (t_cmp (o_ne C cf) (e_bi b_repr (gl_ (by kernel_rfl)) M.b_repr (by rfl) (l_cons (e_fld0 cf (v_ 0 (by kernel_rfl) rfl) rfl) (l_nil))) (e_bi b_repr (gl_ (by kernel_rfl)) M.b_repr (by rfl) (l_cons (v_ 3 (by kernel_rfl) rfl) (l_nil))) (by kernel_rfl))))))
    (ss_cons (s_ret (e_bl))
    (ss_nil))
    (ss_nil))
    (ss_cons (s_ret (e_cmp (o_eq C cf) (e_bi b_repr (gl_ (by kernel_rfl)) M.b_repr (by rfl) (l_cons (e_fld0 cf (v_ 0 (by kernel_rfl) rfl) rfl) (l_nil))) (e_bi b_repr (gl_ (by kernel_rfl)) M.b_repr (by rfl) (l_cons (e_cmp (o_eq C cf) (v_ 2 (by kernel_rfl) rfl) (e_tup (l_nil)) (by kernel_rfl)) (l_nil))) (by kernel_rfl)))
    (ss_nil))))
theorem sc27 : FnScope N27 ["_law_question", "_law_word", "_law_other"] (defScope (top 32)) := ⟨rfl, rfl, rfl, by decide +kernel, rfl, by decide +kernel, by decide +kernel⟩
theorem w27 {T : Wd} {n : Nat} (M : Nm T) (K : Kb T) (cf : ClF (pd.G T.K) T.K) {qual : Str} {f : Addr} {cdv : Value} {A : Around} {outer : List Env} {s : Shared} {H : Hp} {X0 : XK} (C : Cn (pd.G T.K) n (T.cx N27 qual (defScope (top 32)) f cdv A outer s H X0) (fun c d _ H => X0 c d H)) :
    PSs (T.cx N27 qual (defScope (top 32)) f cdv A outer s H X0) (defBody (top 32)) (tSs (pd.G T.K) n (T.cx N27 qual (defScope (top 32)) f cdv A outer s H X0) (fun c d _ H => X0 c d H) d27.body) :=
    ss_cons (s_asg (e_non) (gv_ 3 C.nd (by kernel_rfl) rfl))
    (ss_cons (s_try C cf rfl rfl rfl
    (fun W1 pn1 xe1 tk1 po1 => ss_cons (s_ite (t_cmp (o_eq (C.tr tk1 po1) cf) (v_ 1 (by kernel_rfl) rfl) (e_str) (by kernel_rfl))
    (ss_cons (s_asg (e_meth (C.tr tk1 po1) cf (v_ 0 (by kernel_rfl) rfl) rfl (ak_nil) (K.mk_negated_0_) rfl) (gv_ 3 (C.tr tk1 po1).nd (by kernel_rfl) rfl))
    (ss_nil))
    (ss_cons (s_ite (t_cmp (o_eq (C.tr tk1 po1) cf) (v_ 1 (by kernel_rfl) rfl) (e_str) (by kernel_rfl))
    (ss_cons (s_asg (e_meth (C.tr tk1 po1) cf (v_ 0 (by kernel_rfl) rfl) rfl (ak_kw0 (k_cons (v_ 2 (by kernel_rfl) rfl) (k_nil))) (K.mk_both_0_other) rfl) (gv_ 3 (C.tr tk1 po1).nd (by kernel_rfl) rfl))
    (ss_nil))
    (ss_cons (s_asg (e_meth (C.tr tk1 po1) cf (v_ 0 (by kernel_rfl) rfl) rfl (ak_kw0 (k_cons (v_ 2 (by kernel_rfl) rfl) (k_nil))) (K.mk_either_0_other) rfl) (gv_ 3 (C.tr tk1 po1).nd (by kernel_rfl) rfl))
    (ss_nil)))
    (ss_nil)))
    (ss_nil))
    (h_as (k := 2) (i := 4) ⟨gl_ (by kernel_rfl), by kernel_rfl, .inl M.m_TooMany⟩ rfl (by kernel_rfl) (fun a1 pn1 => ss_cons (s_asg (e_tup (l_cons (e_str) (l_cons (e_fld0 cf (v_ 4 (by kernel_rfl) rfl) rfl) (l_cons (e_fld0 cf (v_ 4 (by kernel_rfl) rfl) rfl) (l_cons (e_isi1 cf (gl_ (by kernel_rfl)) M.b_isinstance (v_ 4 (by kernel_rfl) rfl) (co_ (gl_ (by kernel_rfl)) M.m_ThinError)) (l_nil)))))) (gv_ 3 C.nd (by kernel_rfl) rfl))
    (ss_nil)) (h_as (k := 1) (i := 4) ⟨gl_ (by kernel_rfl), by kernel_rfl, .inl M.m_BadQuestion⟩ rfl (by kernel_rfl) (fun a1 pn1 => ss_cons (s_asg (e_tup (l_cons (e_str) (l_cons (e_fld0 cf (v_ 4 (by kernel_rfl) rfl) rfl) (l_cons (e_isi1 cf (gl_ (by kernel_rfl)) M.b_isinstance (v_ 4 (by kernel_rfl) rfl) (co_ (gl_ (by kernel_rfl)) M.m_ThinError)) (l_nil))))) (gv_ 3 C.nd (by kernel_rfl) rfl))
    (ss_nil)) (h_nil))))
    (ss_cons (s_ret (v_ 3 (by kernel_rfl) rfl))
    (ss_nil)))
theorem sc28 : FnScope N28 ["_law_question", "_law_items_here", "_law_word", "_law_other", "_law_its"] (defScope (top 33)) := ⟨rfl, rfl, rfl, by decide +kernel, rfl, by decide +kernel, by decide +kernel⟩
theorem w28 {T : Wd} {n : Nat} (M : Nm T) (K : Kb T) (cf : ClF (pd.G T.K) T.K) {qual : Str} {f : Addr} {cdv : Value} {A : Around} {outer : List Env} {s : Shared} {H : Hp} {X0 : XK} (C : Cn (pd.G T.K) n (T.cx N28 qual (defScope (top 33)) f cdv A outer s H X0) (fun c d _ H => X0 c d H)) :
    PSs (T.cx N28 qual (defScope (top 33)) f cdv A outer s H X0) (defBody (top 33)) (tSs (pd.G T.K) n (T.cx N28 qual (defScope (top 33)) f cdv A outer s H X0) (fun c d _ H => X0 c d H) d28.body) :=
    ss_cons (s_asg (e_bin o_add (e_bin o_add (e_lst (l_cons (v_ 2 (by kernel_rfl) rfl) (l_nil))) (v_ 1 (by kernel_rfl) rfl)) (e_ite (t_cmp (o_ne C cf) (v_ 2 (by kernel_rfl) rfl) (e_str) (by kernel_rfl)) (v_ 4 (by kernel_rfl) rfl) (e_lst (l_nil)))) (gv_ 5 C.nd (by kernel_rfl) rfl))
    (ss_cons (s_asg (e_call C cf (f := 27) (by rfl) (ak_pos (l_cons (v_ 0 (by kernel_rfl) rfl) (l_cons (v_ 2 (by kernel_rfl) rfl) (l_cons (v_ 3 (by kernel_rfl) rfl) (l_nil))))) (kbd_pos cf C rfl rfl) rfl (gl_ (by kernel_rfl)) M.m__law_joined) (gv_ 6 C.nd (by kernel_rfl) rfl))
    (ss_cons (s_ite (t_cmp o_gt (e_bi b_len (gl_ (by kernel_rfl)) M.b_len (by rfl) (l_cons (v_ 5 (by kernel_rfl) rfl) (l_nil))) (e_int) (by kernel_rfl))
    (ss_cons (s_ret (e_cmp (o_eq C cf) (v_ 6 (by kernel_rfl) rfl) (e_tup (l_cons (e_str) (l_cons (e_str) (l_cons (e_int) (l_cons (e_bl) (l_nil)))))) (by kernel_rfl)))
    (ss_nil))
    (ss_nil))
    (ss_cons (s_ret (e_and (e_not (e_isi1 cf (gl_ (by kernel_rfl)) M.b_isinstance (v_ 6 (by kernel_rfl) rfl) (cb_ (gl_ (by kernel_rfl)) M.b_tuple (by rfl)))) (e_and (e_call C cf (f := 26) (by rfl) (ak_pos (l_cons (v_ 6 (by kernel_rfl) rfl) (l_cons (v_ 5 (by kernel_rfl) rfl) (l_nil)))) (kbd_pos cf C rfl rfl) rfl (gl_ (by kernel_rfl)) M.m__law_is_told) (e_one (e_cmp (o_eq C cf) (v_ 6 (by kernel_rfl) rfl) (e_stat C cf (f := 13) (c := 5) (by rfl) (ak_pos (l_cons (e_bm PySem.F.plainAttrs_str PySem.F.slot_str_join PySem.F.type_str_join m_join (fun a b c => ty_str (is_str (by simp)) a b c) (e_str) (l_cons (v_ 5 (by kernel_rfl) rfl) (l_nil))) (l_nil))) (kbd_pos cf C rfl rfl) rfl (gl_ (by kernel_rfl)) M.m_Question M.s1_Question M.s2_Question M.s3_Question_read M.s4_Question_read.choose_spec) (by kernel_rfl))))))
    (ss_nil))))
theorem sc29 : FnScope N29 ["_law_pen_here", "_law_question", "_law_items_here"] (defScope (top 34)) := ⟨rfl, rfl, rfl, by decide +kernel, rfl, by decide +kernel, by decide +kernel⟩
theorem w29 {T : Wd} {n : Nat} (M : Nm T) (K : Kb T) (cf : ClF (pd.G T.K) T.K) {qual : Str} {f : Addr} {cdv : Value} {A : Around} {outer : List Env} {s : Shared} {H : Hp} {X0 : XK} (C : Cn (pd.G T.K) n (T.cx N29 qual (defScope (top 34)) f cdv A outer s H X0) (fun c d _ H => X0 c d H)) :
    PSs (T.cx N29 qual (defScope (top 34)) f cdv A outer s H X0) (defBody (top 34)) (tSs (pd.G T.K) n (T.cx N29 qual (defScope (top 34)) f cdv A outer s H X0) (fun c d _ H => X0 c d H) d29.body) :=
    ss_cons (s_asg (e_call C cf (f := 21) (by rfl) (ak_pos (l_cons (v_ 0 (by kernel_rfl) rfl) (l_cons (e_lst (l_cons (e_bm PySem.F.plainAttrs_str PySem.F.slot_str_join PySem.F.type_str_join m_join (fun a b c => ty_str (is_str (by simp)) a b c) (e_str) (l_cons (v_ 2 (by kernel_rfl) rfl) (l_nil))) (l_cons (e_non) (l_cons (v_ 2 (by kernel_rfl) rfl) (l_cons (e_bl) (l_cons (e_int) (l_cons (e_tup (l_cons (e_str) (l_cons (e_str) (l_cons (e_str) (l_nil))))) (l_cons (e_tup (l_nil)) (l_cons (e_dic0) (l_cons (e_lst (l_cons (v_ 1 (by kernel_rfl) rfl) (l_nil))) (l_nil))))))))))) (l_nil)))) (kbd_pos cf C rfl rfl) rfl (gl_ (by kernel_rfl)) M.m__law_one_of) (gv_ 3 C.nd (by kernel_rfl) rfl))
    (ss_cons (s_for C (i_seq (e_tup (l_cons (e_str) (l_cons (e_str) (l_nil))))) (gv_ 4 C.nd (by kernel_rfl) rfl)
    (ss_cons (s_ite (t_cmp (o_ne C cf) (e_call C cf (f := 27) (by rfl) (ak_pos (l_cons (v_ 1 (by kernel_rfl) rfl) (l_cons (v_ 4 (by kernel_rfl) rfl) (l_cons (v_ 3 (by kernel_rfl) rfl) (l_nil))))) (kbd_pos cf C rfl rfl) rfl (gl_ (by kernel_rfl)) M.m__law_joined) (e_tup (l_cons (e_str) (l_cons (e_str) (l_cons (e_bl) (l_nil))))) (by kernel_rfl))
    (ss_cons (s_ret (e_bl))
    (ss_nil))
    (ss_nil))
    (ss_nil)))
    (ss_cons (s_ret (e_and (e_cmp (o_ne C cf) (v_ 1 (by kernel_rfl) rfl) (v_ 3 (by kernel_rfl) rfl) (by kernel_rfl)) (e_and (e_not (e_cmp (o_eq C cf) (v_ 1 (by kernel_rfl) rfl) (v_ 3 (by kernel_rfl) rfl) (by kernel_rfl))) (e_one (e_call C cf (f := 26) (by rfl) (ak_pos (l_cons (v_ 1 (by kernel_rfl) rfl) (l_cons (v_ 2 (by kernel_rfl) rfl) (l_nil)))) (kbd_pos cf C rfl rfl) rfl (gl_ (by kernel_rfl)) M.m__law_is_told)))))
    (ss_nil)))
theorem sc30 : FnScope N30 ["_law_script"] (defScope (top 35)) := ⟨rfl, rfl, rfl, by decide +kernel, rfl, by decide +kernel, by decide +kernel⟩
theorem w30 {T : Wd} {n : Nat} (M : Nm T) (K : Kb T) (cf : ClF (pd.G T.K) T.K) {qual : Str} {f : Addr} {cdv : Value} {A : Around} {outer : List Env} {s : Shared} {H : Hp} {X0 : XK} (C : Cn (pd.G T.K) n (T.cx N30 qual (defScope (top 35)) f cdv A outer s H X0) (fun c d _ H => X0 c d H)) :
    PSs (T.cx N30 qual (defScope (top 35)) f cdv A outer s H X0) (defBody (top 35)) (tSs (pd.G T.K) n (T.cx N30 qual (defScope (top 35)) f cdv A outer s H X0) (fun c d _ H => X0 c d H) d30.body) :=
    ss_cons (s_asg (e_call C cf (f := 19) (by rfl) (ak_pos (l_cons (v_ 0 (by kernel_rfl) rfl) (l_nil))) (kbd_pos cf C rfl rfl) rfl (gl_ (by kernel_rfl)) M.m__law_pen) (gv_ 1 C.nd (by kernel_rfl) rfl))
    (ss_cons (s_for C (i_rng1 (gl_ (by kernel_rfl)) M.b_range (l_cons (e_int) (l_nil))) (gv_ 2 C.nd (by kernel_rfl) rfl)
    (ss_cons (s_asg (e_call C cf (f := 24) (by rfl) (ak_pos (l_cons (v_ 1 (by kernel_rfl) rfl) (l_nil))) (kbd_pos cf C rfl rfl) rfl (gl_ (by kernel_rfl)) M.m__law_drawn) (gv_ 3 C.nd (by kernel_rfl) rfl))
    (ss_cons (s_asg (e_ite (t_cmp (o_eq C cf) (e_call C cf (f := 20) (by rfl) (ak_pos (l_cons (v_ 1 (by kernel_rfl) rfl) (l_cons (e_int) (l_nil)))) (kbd_pos cf C rfl rfl) rfl (gl_ (by kernel_rfl)) M.m__law_draw) (e_int) (by kernel_rfl)) (v_ 3 (by kernel_rfl) rfl) (e_call C cf (f := 24) (by rfl) (ak_pos (l_cons (v_ 1 (by kernel_rfl) rfl) (l_nil))) (kbd_pos cf C rfl rfl) rfl (gl_ (by kernel_rfl)) M.m__law_drawn)) (gv_ 4 C.nd (by kernel_rfl) rfl))
    (ss_cons (s_ite (t_cmp (o_eq C cf) (e_call C cf (f := 20) (by rfl) (ak_pos (l_cons (v_ 1 (by kernel_rfl) rfl) (l_cons (e_int) (l_nil)))) (kbd_pos cf C rfl rfl) rfl (gl_ (by kernel_rfl)) M.m__law_draw) (e_int) (by kernel_rfl))
    (ss_cons (s_asg (e_slc (v_ 4 (by kernel_rfl) rfl) (o_some (neg_ (e_int))) (o_none)) (gv_ 4 C.nd (by kernel_rfl) rfl))
    (ss_nil))
    (ss_nil))
    (ss_cons (s_par (i := 5) (j := 6) C rfl rfl (by decide) (by kernel_rfl) (by kernel_rfl) (l_cons (e_stat C cf (f := 13) (c := 5) (by rfl) (ak_kw0 (k_cons (e_bm PySem.F.plainAttrs_str PySem.F.slot_str_join PySem.F.type_str_join m_join (fun a b c => ty_str (is_str (by simp)) a b c) (e_str) (l_cons (v_ 3 (by kernel_rfl) rfl) (l_nil))) (k_nil))) (K.kb_13_0_text) rfl (gl_ (by kernel_rfl)) M.m_Question M.s1_Question M.s2_Question M.s3_Question_read M.s4_Question_read.choose_spec) (l_cons (e_stat C cf (f := 13) (c := 5) (by rfl) (ak_pos (l_cons (e_bm PySem.F.plainAttrs_str PySem.F.slot_str_join PySem.F.type_str_join m_join (fun a b c => ty_str (is_str (by simp)) a b c) (e_str) (l_cons (v_ 4 (by kernel_rfl) rfl) (l_nil))) (l_nil))) (kbd_pos cf C rfl rfl) rfl (gl_ (by kernel_rfl)) M.m_Question M.s1_Question M.s2_Question M.s3_Question_read M.s4_Question_read.choose_spec) (l_nil))) (by kernel_rfl))
    (ss_cons (s_ite (PW.pt (w_or (t_not (t_val (e_call C cf (f := 26) (by rfl) (ak_pos (l_cons (v_ 5 (by kernel_rfl) rfl) (l_cons (v_ 3 (by kernel_rfl) rfl) (l_nil)))) (kbd_pos cf C rfl rfl) rfl (gl_ (by kernel_rfl)) M.m__law_is_told))) (w_one' (t_not (t_val (e_call C cf (f := 26) (by rfl) (ak_pos (l_cons (v_ 6 (by kernel_rfl) rfl) (l_cons (v_ 4 (by kernel_rfl) rfl) (l_nil)))) (kbd_pos cf C rfl rfl) rfl (gl_ (by kernel_rfl)) M.m__law_is_told))))))
    (ss_cons (s_ret (e_bl))
    (ss_nil))
    (ss_nil))
    (ss_cons (s_ite (PW.pt (w_or (t_cmp (o_ne C cf) (e_cmp (o_eq C cf) (v_ 5 (by kernel_rfl) rfl) (v_ 6 (by kernel_rfl) rfl) (by kernel_rfl)) (e_cmp (o_eq C cf) (v_ 3 (by kernel_rfl) rfl) (v_ 4 (by kernel_rfl) rfl) (by kernel_rfl)) (by kernel_rfl)) (w_one' (t_cmp (o_ne C cf) (e_cmp (o_ne C cf) (v_ 5 (by kernel_rfl) rfl) (v_ 6 (by kernel_rfl) rfl) (by kernel_rfl)) (e_cmp (o_ne C cf) (v_ 3 (by kernel_rfl) rfl) (v_ 4 (by kernel_rfl) rfl) (by kernel_rfl)) (by kernel_rfl)))))
    (ss_cons (s_ret (e_bl))
    (ss_nil))
    (ss_nil))
    (ss_cons (s_for C (i_seq (e_tup (l_cons (e_str) (l_cons (e_str) (l_cons (e_str) (l_cons (e_str) (l_nil))))))) (gv_ 7 C.nd (by kernel_rfl) rfl)
    (ss_cons (s_ite (PW.pt (w_or (t_not (t_val (e_call C cf (f := 28) (by rfl) (ak_pos (l_cons (v_ 5 (by kernel_rfl) rfl) (l_cons (v_ 3 (by kernel_rfl) rfl) (l_cons (v_ 7 (by kernel_rfl) rfl) (l_cons (v_ 6 (by kernel_rfl) rfl) (l_cons (v_ 4 (by kernel_rfl) rfl) (l_nil))))))) (kbd_pos cf C rfl rfl) rfl (gl_ (by kernel_rfl)) M.m__law_join_right))) (w_one' (t_not (t_val (e_call C cf (f := 28) (by rfl) (ak_pos (l_cons (v_ 6 (by kernel_rfl) rfl) (l_cons (v_ 4 (by kernel_rfl) rfl) (l_cons (v_ 7 (by kernel_rfl) rfl) (l_cons (v_ 5 (by kernel_rfl) rfl) (l_cons (v_ 3 (by kernel_rfl) rfl) (l_nil))))))) (kbd_pos cf C rfl rfl) rfl (gl_ (by kernel_rfl)) M.m__law_join_right))))))
    (ss_cons (s_ret (e_bl))
    (ss_nil))
    (ss_nil))
    (ss_nil)))
    (ss_cons (s_ite (PW.pt (w_or (t_not (t_val (e_call C cf (f := 29) (by rfl) (ak_pos (l_cons (v_ 1 (by kernel_rfl) rfl) (l_cons (v_ 5 (by kernel_rfl) rfl) (l_cons (v_ 3 (by kernel_rfl) rfl) (l_nil))))) (kbd_pos cf C rfl rfl) rfl (gl_ (by kernel_rfl)) M.m__law_odd_right))) (w_one' (t_not (t_val (e_call C cf (f := 26) (by rfl) (ak_pos (l_cons (v_ 6 (by kernel_rfl) rfl) (l_cons (v_ 4 (by kernel_rfl) rfl) (l_nil)))) (kbd_pos cf C rfl rfl) rfl (gl_ (by kernel_rfl)) M.m__law_is_told))))))
    (ss_cons (s_ret (e_bl))
    (ss_nil))
    (ss_nil))
    (ss_nil))))))))))
    (ss_cons (s_ret (e_bl))
    (ss_nil)))
end Lw

set_option linter.all false
set_option autoImplicit false
set_option maxRecDepth 100000
namespace Lw
open PySem Pv
theorem run_succ (P : Pr) (n f : Nat) (as : List D) (m : Mu) {d : Df} (h : P.df f = some d) (hl : as.length = d.ps.length) : run P (n + 1) f as m = runD d (evSs P (run P n) d.body (slots0 d as) m) m.length := by
  show (match P.df f with
    | some d => if as.length = d.ps.length then runD d (evSs P (run P n) d.body (slots0 d as) m) m.length else .stuck
    | none => .stuck) = _
  rw [h]
  simp only [hl, if_true]
theorem compL_map {f : D → Mu → Res (Option D)} {g : Int → D} {m : Mu} : ∀ (l : List Int) (acc : List D), (∀ x ∈ l, f (.int x) m = .ok (some (g x)) m) → acc.length + l.length ≤ 1000000 → compL f (l.map D.int) acc m = .ok (acc ++ l.map g) m
  | [], acc, _, _ => by simp [compL]
  | x :: l, acc, h, hl => by
    simp only [List.map_cons, compL, h x (by simp), Res.bind_ok]
    simp only [List.length_cons] at hl
    have hb : big acc.length = true := by unfold big; simp; omega
    rw [hb, Res.when_true, compL_map l _ (fun y hy => h y (by simp [hy])) (by simp; omega)]
    simp
theorem toPys_ints (m : Mu) (k : Nat) : ∀ (l : List Int), toPys (toPy m (k + 1)) (l.map D.int) = some (l.map PyData.int)
  | [] => rfl
  | x :: l => by
    have := toPys_ints m k l
    show (some (PyData.int x)).bind (fun p => (toPys (toPy m (k + 1)) (l.map D.int)).map (p :: ·)) = _
    rw [this]
    rfl
theorem mapLocs_ints (r : Nat → Option D) : ∀ (l : List Int), mapLocs r (l.map D.int) = some (l.map D.int)
  | [] => rfl
  | x :: l => by
    simp [mapLocs, mapLoc, mapLocs_ints r l]
theorem eq_nil (m : Mu) (l : List Int) : eqD m (.lst (l.map D.int)) (.lst []) = some l.isEmpty := by
  have h1 : pyD m (.lst (l.map D.int)) = some (.list (l.map PyData.int)) := by
    show (toPys (toPy m 59) (l.map D.int)).map PyData.list = _
    rw [toPys_ints m 58 l]
    rfl
  have h2 : pyD m (.lst []) = some (.list []) := rfl
  unfold eqD
  rw [h1, h2]
  cases l <;> rfl
theorem pen_run (n : Nat) (ns : List Int) (h : ns.length ≤ 63) : run pd.P (n + 1) 19 [.scr ns] [] = .ok (.loc 0) [some (.lst [.lst (ns.map .int), .int 0, .int 0])] := by
  rw [run_succ pd.P n 19 _ _ (d := d19) rfl rfl]
  have hc : compL (fun d m => (biD Bi.int false m [d]).bind fun y m => Res.ok (some y) m) (ns.map D.int) [] [] = .ok (ns.map D.int) [] := by
    have := compL_map (f := fun d m => (biD Bi.int false m [d]).bind fun y m => Res.ok (some y) m) (g := D.int) (m := []) ns [] (fun x _ => rfl) (by simp; omega)
    simpa using this
  have ht : List.take (min 63 ns.length) (ns.map D.int) = ns.map D.int := by
    rw [List.take_of_length_le (by simp; omega)]
  simp [d19, evSs, evS, evE, evL, evI, evO, evT, slots0, dr, slice, clip, itemsD, asgT, tgIx, wipeA, ht, hc, mk, big, Res.nox, Res.when, seqR, runD, endR, lay, layM, cut, mapLoc, mapLocs, mapLocs_ints]
def pen (cs : List Int) (at_ rest : Int) : D := .lst [.lst (cs.map .int), .int at_, .int rest]
section
variable {call : Cal} {t : Mu} {cs : List Int} {at_ rest many : Int}
theorem pen_at {s : Sl} {k : Nat} {v : D} (h : s[0]? = some (some (.loc 0))) (hk : [D.lst (cs.map .int), .int at_, .int rest][k]? = some v) : evE pd.P call (.ix (.var 0) (.int k)) s (some (pen cs at_ rest) :: t) = .ok v (some (pen cs at_ rest) :: t) := by
  have hk3 : k < 3 := (List.getElem?_eq_some_iff.mp hk).1
  have e := (List.getElem?_eq_some_iff.mp hk).2
  simp [evE, h, dr, pen, ixD, ixAt, hk3]
  exact e
theorem pen_rest {s : Sl} {e : E} {r : Int} (h : s[0]? = some (some (.loc 0))) (he : evE pd.P call e s (some (pen cs at_ rest) :: t) = .ok (.int r) (some (pen cs at_ rest) :: t)) :
    evS pd.P call (.asg (.sub (.var 0) (.int 2)) e) s (some (pen cs at_ rest) :: t) = .ok (.nxt s) (some (pen cs at_ r) :: t) := by
  unfold pen at he ⊢
  simp [evS, he, asgA, evE, h, setIx, ixAt, setM]
theorem pen_next {s : Sl} {e : E} {r : Int} (h : s[0]? = some (some (.loc 0))) (he : evE pd.P call e s (some (pen cs at_ rest) :: t) = .ok (.int r) (some (pen cs at_ rest) :: t)) :
    evS pd.P call (.asg (.sub (.var 0) (.int 1)) e) s (some (pen cs at_ rest) :: t) = .ok (.nxt s) (some (pen cs r rest) :: t) := by
  unfold pen at he ⊢
  simp [evS, he, asgA, evE, h, setIx, ixAt, setM]
theorem ev_var {s : Sl} {i : Nat} {v : D} {m : Mu} (h : s[i]? = some (some v)) : evE pd.P call (.var i) s m = .ok v m := by
  simp [evE, h]
theorem ev_bin {o : Op2} {a b : E} {s : Sl} {m : Mu} {x y z : D} (ha : evE pd.P call a s m = .ok x m) (hb : evE pd.P call b s m = .ok y m) (h : op2 o m x y = .ok z m) : evE pd.P call (.bin o a b) s m = .ok z m := by
  simp [evE, ha, hb, h]
theorem ev_int {i : Int} {s : Sl} {m : Mu} : evE pd.P call (.int i) s m = .ok (.int i) m := by simp [evE]
theorem ev_bi1 {f : Bi} {a : E} {s : Sl} {m : Mu} {x z : D} (ha : evE pd.P call a s m = .ok x m) (h : biD f false m [x] = .ok z m) : evE pd.P call (.bi f false [a]) s m = .ok z m := by
  simp [evE, evL, ha, h]
theorem ev_cmp {o : Cm} {a b : E} {s : Sl} {m : Mu} {x y z : D} (ha : evE pd.P call a s m = .ok x m) (hb : evE pd.P call b s m = .ok y m) (h : cmpD pd.P call o x y m = .ok z m) : evE pd.P call (.cmp a o b) s m = .ok z m := by
  simp [evE, ha, hb, h]
end
theorem tru_t {P : Pr} {call : Cal} {m : Mu} {p : Prop} [Decidable p] (h : p) : truI P call (.bl (decide p)) m = .ok true m := by rw [decide_eq_true h]; rfl
theorem tru_f {P : Pr} {call : Cal} {m : Mu} {p : Prop} [Decidable p] (h : ¬ p) : truI P call (.bl (decide p)) m = .ok false m := by rw [decide_eq_false h]; rfl
theorem big_pow {i : Int} (h : i < 2 ^ 64) : i < 2 ^ 4096 := Int.lt_trans h (by decide +kernel)
/-- one cell of the script, or what stands for it -/
def cell (cs : List Int) (at_ : Int) : Int := if cs = [] then 70201 * at_ + 5009 else cs.getD (at_ % (cs.length : Int)).toNat 0
def mix1 (c at_ : Int) : Int := (c % 2147483587 + 88007 * at_ + 5009) ^ 5 % 2147483629
def mix2 (c at_ : Int) : Int := (mix1 c at_ * (2 * at_ + 390) + 88007 * at_ * at_ + 70201) ^ 3 % 2147483563
def big18 (cs : List Int) (at_ : Int) : Bool := decide (at_ < (cs.length : Int)) && decide ((10 : Int) ^ 18 ≤ (if cell cs at_ < 0 then -cell cs at_ else cell cs at_))
def rest1 (c : Int) : Int := 2 * ((if c < 0 then -c else c) - 10 ^ 18) + b2i (decide (c < 0))
/-- a draw: what it gives, the pen behind it -/
def draw (cs : List Int) (at_ rest many : Int) : Int × Int × Int :=
  if 0 < rest then (rest % many, at_, rest / many)
  else if big18 cs at_ then (rest1 (cell cs at_) % many, at_ + 1, rest1 (cell cs at_) / many)
  else (mix2 (cell cs at_) at_ / 128 % many, at_ + 1, rest)
section
variable {call : Cal} {t : Mu} {cs : List Int} {at_ rest many : Int}
theorem draw_pos (hr : 0 < rest) (h3 : 0 < many) (h4 : many < 2 ^ 64) : evSs pd.P call d20.body [some (.loc 0), some (.int many), none, none, none, none] (some (pen cs at_ rest) :: t) = .ok (.ret (.int (rest % many))) (some (pen cs at_ (rest / many)) :: t) :=
  (ss_next (asg_v (ev_bi1 (pen_at (k := 2) rfl rfl) rfl))).trans (ss_ret' ((ite_t (ev_cmp (ev_var rfl) ev_int rfl) (tru_t hr)).trans
    ((ss_next (pen_rest rfl (ev_bin (ev_var rfl) (ev_var rfl) (fdiv_int _ h3 (big_pow h4))))).trans (ss_ret' (ret_e (ev_bin (ev_var rfl) (ev_var rfl) (mod_int _ h3)))))))
theorem ev_nil {s : Sl} {m : Mu} : evE pd.P call (.lst false []) s m = .ok (.lst []) m := by
  simp [evE, evL, mk, big]
theorem ne_nil {m : Mu} : cmpD pd.P call .ne (.lst (cs.map .int)) (.lst []) m = .ok (.bl (!cs.isEmpty)) m := by
  show Res.ofOpt m ((eqD m (.lst (cs.map .int)) (.lst [])).map fun k => D.bl (if true then !k else k)) = _
  rw [eq_nil]
  rfl
theorem ev_ix {a b : E} {s : Sl} {m : Mu} {xs : List D} {j : Int} {v : D} (ha : evE pd.P call a s m = .ok (.lst xs) m) (hb : evE pd.P call b s m = .ok (.int j) m) (h : ixD xs j = some v) : evE pd.P call (.ix a b) s m = .ok v m := by
  simp [evE, ha, hb, dr, h]
theorem ixD_mod (h1 : 0 ≤ at_) (hc : cs ≠ []) : ixD (cs.map D.int) (at_ % ((cs.map D.int).length : Int)) = some (.int (cs.getD (at_ % (cs.length : Int)).toNat 0)) := by
  have hl : 0 < cs.length := List.length_pos_iff.mpr hc
  rw [List.length_map]
  have e1 : 0 ≤ at_ % (cs.length : Int) := Int.emod_nonneg _ (by omega)
  have e2 : at_ % (cs.length : Int) < cs.length := Int.emod_lt_of_pos _ (by omega)
  have e3 : (at_ % (cs.length : Int)).toNat < cs.length := by omega
  unfold ixD ixAt
  rw [List.length_map, if_pos e1, if_pos e3]
  simp [e3]
theorem draw_start (hr : ¬ 0 < rest) (h1 : 0 ≤ at_) : evSs pd.P call d20.body [some (.loc 0), some (.int many), none, none, none, none] (some (pen cs at_ rest) :: t) =
    evSs pd.P call (d20.body.drop 6) [some (.loc 0), some (.int many), some (.int rest), some (.int at_), some (.int (cell cs at_)), none] (some (pen cs (at_ + 1) rest) :: t) := by
  refine (ss_next (asg_v (ev_bi1 (pen_at (k := 2) rfl rfl) rfl))).trans ((ss_next ((ite_f (ev_cmp (ev_var rfl) ev_int rfl) (tru_f hr)).trans ss_nil')).trans ((ss_next (asg_v (pen_at (k := 1) rfl rfl))).trans
    ((ss_next (pen_next (r := at_ + 1) rfl (ev_bin (ev_var rfl) ev_int rfl))).trans ((ss_next (asg_v (ev_bin (ev_bin ev_int (ev_var rfl) (mul_int _ (mulOk_l (by decide) (by decide)))) ev_int rfl))).trans ?_))))
  by_cases hc : cs = []
  · subst hc
    exact (ss_next ((ite_f (d := .bl false) (ev_cmp (pen_at (k := 0) rfl rfl) ev_nil ne_nil) rfl).trans ss_nil')).trans rfl
  · have e : cs.isEmpty = false := by cases cs <;> simp at hc ⊢
    have e2 : cell cs at_ = cs.getD (at_ % (cs.length : Int)).toNat 0 := if_neg hc
    rw [e2]
    exact (ss_next ((ite_t (ev_cmp (pen_at (k := 0) rfl rfl) ev_nil ne_nil) (by rw [e]; rfl)).trans ((ss_next (asg_v (ev_ix (pen_at (k := 0) rfl rfl) (ev_bin (ev_bi1 (ev_var rfl) rfl) (ev_bi1 (pen_at (k := 0) rfl rfl) rfl) (mod_int _ (by
      have := List.length_pos_iff.mpr hc
      simp; omega))) (ixD_mod h1 hc)))).trans ss_nil'))).trans rfl
theorem ev_and_t {a b : E} {s : Sl} {m m' : Mu} {x y : D} (ha : evE pd.P call a s m = .ok x m) (h : tru m x = some true) (hb : evE pd.P call b s m = .ok y m') : evE pd.P call (.and a b) s m = .ok y m' := by
  simp [evE, ha, h, hb, Res.ofOpt]
theorem ev_and_f {a b : E} {s : Sl} {m : Mu} {x : D} (ha : evE pd.P call a s m = .ok x m) (h : tru m x = some false) : evE pd.P call (.and a b) s m = .ok x m := by
  simp [evE, ha, h, Res.ofOpt]
theorem ev_ten {s : Sl} {m : Mu} : evE pd.P call (.bin .pow (.int 10) (.int 18)) s m = .ok (.int (10 ^ 18)) m := ev_bin ev_int ev_int (pow_int _ (by decide) (by decide) (by decide) (by decide))
theorem draw_big (hb : big18 cs at_ = true) (h3 : 0 < many) (h4 : many < 2 ^ 64) : evSs pd.P call (d20.body.drop 6) [some (.loc 0), some (.int many), some (.int rest), some (.int at_), some (.int (cell cs at_)), none] (some (pen cs (at_ + 1) rest) :: t) =
    .ok (.ret (.int (rest1 (cell cs at_) % many))) (some (pen cs (at_ + 1) (rest1 (cell cs at_) / many)) :: t) := by
  unfold big18 at hb
  rw [Bool.and_eq_true, decide_eq_true_eq, decide_eq_true_eq] at hb
  refine (ss_ret' ((ite_t (ev_and_t (ev_cmp (ev_var rfl) (ev_bi1 (pen_at (k := 0) rfl rfl) rfl) (cmp_lt _ _ _ _ _)) (by rw [tru_bl]; simp; exact hb.1) (ev_cmp (ev_bi1 (ev_var rfl) rfl) ev_ten (cmp_ge _ _ _ _ _))) (tru_t hb.2)).trans
    ((ss_next (asg_v (ev_bin (ev_bin ev_int (ev_bin (ev_bi1 (ev_var rfl) rfl) ev_ten rfl) (mul_int _ (mulOk_l (by decide) (by decide)))) (ev_bi1 (ev_cmp (ev_var rfl) ev_int rfl) rfl) rfl))).trans
    ((ss_next (pen_rest (r := rest1 (cell cs at_) / many) rfl (ev_bin (ev_var rfl) (ev_var rfl) (fdiv_int _ h3 (big_pow h4))))).trans (ss_ret' (ret_e (ev_bin (ev_var rfl) (ev_var rfl) (mod_int _ h3))))))))
theorem draw_small (hb : big18 cs at_ = false) (h1 : 0 ≤ at_) (h2 : at_ ≤ 2 ^ 20) (h3 : 0 < many) : evSs pd.P call (d20.body.drop 6) [some (.loc 0), some (.int many), some (.int rest), some (.int at_), some (.int (cell cs at_)), none] (some (pen cs (at_ + 1) rest) :: t) =
    .ok (.ret (.int (mix2 (cell cs at_) at_ / 128 % many))) (some (pen cs (at_ + 1) rest) :: t) := by
  have c1 : evSs pd.P call (d20.body.drop 6) [some (.loc 0), some (.int many), some (.int rest), some (.int at_), some (.int (cell cs at_)), none] (some (pen cs (at_ + 1) rest) :: t) = evSs pd.P call (d20.body.drop 7) [some (.loc 0), some (.int many), some (.int rest), some (.int at_), some (.int (cell cs at_)), none] (some (pen cs (at_ + 1) rest) :: t) := by
    unfold big18 at hb
    by_cases hx : at_ < (cs.length : Int)
    · have hy : ¬ (10 : Int) ^ 18 ≤ (if cell cs at_ < 0 then -cell cs at_ else cell cs at_) := fun h => by
        rw [decide_eq_true hx, decide_eq_true h] at hb
        cases hb
      exact ss_next ((ite_f (ev_and_t (ev_cmp (ev_var rfl) (ev_bi1 (pen_at (k := 0) rfl rfl) rfl) (cmp_lt _ _ _ _ _)) (by rw [tru_bl]; simp; exact hx) (ev_cmp (ev_bi1 (ev_var rfl) (bi_abs _ _ _)) ev_ten (cmp_ge _ _ _ _ _))) (tru_f hy)).trans ss_nil')
    · exact ss_next ((ite_f (ev_and_f (ev_cmp (ev_var rfl) (ev_bi1 (pen_at (k := 0) rfl rfl) rfl) (cmp_lt _ _ _ _ _)) (by rw [tru_bl]; simp; omega)) (by rw [truI_bl]; simp; omega)).trans ss_nil')
  have b0 : 0 ≤ cell cs at_ % 2147483587 := Int.emod_nonneg _ (by decide)
  have b1 : cell cs at_ % 2147483587 < 2147483587 := Int.emod_lt_of_pos _ (by decide)
  have b2 : 0 ≤ mix1 (cell cs at_) at_ := Int.emod_nonneg _ (by decide)
  have b3 : mix1 (cell cs at_) at_ < 2147483629 := Int.emod_lt_of_pos _ (by decide)
  have p1 : 0 ≤ at_ * at_ := Int.mul_nonneg h1 h1
  have p2 : at_ * at_ ≤ 2 ^ 40 := by
    have := Int.mul_le_mul h2 h2 h1 (by decide)
    simpa using this
  have p3 : 0 ≤ mix1 (cell cs at_) at_ * (2 * at_ + 390) := Int.mul_nonneg b2 (by omega)
  have p4 : mix1 (cell cs at_) at_ * (2 * at_ + 390) ≤ 2147483629 * (2 * 2 ^ 20 + 390) := Int.mul_le_mul (by omega) (by omega) (by omega) (by decide)
  have p5 : 88007 * at_ * at_ = 88007 * (at_ * at_) := Int.mul_assoc _ _ _
  refine c1.trans ((ss_next (asg_v (ev_bin (ev_bi1 (ev_bin (ev_bin (ev_bin (ev_bin (ev_bi1 (ev_var rfl) rfl) ev_int (mod_int _ (by decide))) (ev_bin ev_int (ev_var rfl) (mul_int _ (mulOk_l (by decide) (by decide)))) rfl) ev_int rfl) ev_int (pow_int _ (by decide) (by decide) (by omega) (by omega))) rfl) ev_int (mod_int _ (by decide))))).trans
    ((ss_next (asg_v (ev_bin (ev_bi1 (ev_bin (ev_bin (ev_bin (ev_bin (ev_var (v := .int (mix1 (cell cs at_) at_)) rfl) (ev_bin (ev_bin ev_int (ev_var rfl) (mul_int _ (mulOk_l (by decide) (by decide)))) ev_int rfl) (mul_int _ (mulOk_l (by omega) (by omega)))) (ev_bin (ev_bin ev_int (ev_var rfl) (mul_int _ (mulOk_l (by decide) (by decide)))) (ev_var rfl) (mul_int _ (mulOk_r (by omega) (by omega)))) rfl) ev_int rfl) ev_int (pow_int _ (by decide) (by decide) (by omega) (by omega))) rfl) ev_int (mod_int _ (by decide))))).trans
    (ss_ret' (ret_e (ev_bin (ev_bi1 (ev_bin (ev_var (v := .int (mix2 (cell cs at_) at_)) rfl) ev_int (fdiv_int _ (by decide) (by decide +kernel))) rfl) (ev_var rfl) (mod_int _ h3))))))
end
theorem run_ret {P : Pr} {n f : Nat} {as : List D} {m m' : Mu} {d : Df} {v : D} (h : P.df f = some d) (hl : as.length = d.ps.length) (hk : d.keep = false) (hb : evSs P (run P n) d.body (slots0 d as) m = .ok (.ret v) m') (hm : m'.length = m.length) : run P (n + 1) f as m = .ok v m' := by
  rw [run_succ P n f as m h hl, hb]
  show endR d.keep m.length v m' = _
  rw [hk]
  unfold endR
  rw [if_pos hm]
theorem draw_run (n : Nat) (t : Mu) (cs : List Int) (at_ rest many : Int) (h1 : 0 ≤ at_) (h2 : at_ ≤ 2 ^ 20) (h3 : 0 < many) (h4 : many < 2 ^ 64) :
    run pd.P (n + 1) 20 [.loc 0, .int many] (some (pen cs at_ rest) :: t) = .ok (.int (draw cs at_ rest many).1) (some (pen cs (draw cs at_ rest many).2.1 (draw cs at_ rest many).2.2) :: t) := by
  refine run_ret (d := d20) rfl rfl rfl ?_ rfl
  unfold draw
  by_cases hr : 0 < rest
  · simp only [hr, if_true]
    exact draw_pos hr h3 h4
  · simp only [hr, if_false]
    cases hb : big18 cs at_ with
    | true => exact (draw_start hr h1).trans (draw_big hb h3 h4)
    | false => exact (draw_start hr h1).trans (draw_small hb h1 h2 h3)
theorem draw_nn {cs : List Int} {at_ rest many : Int} (h3 : 0 < many) : 0 ≤ (draw cs at_ rest many).1 ∧ (draw cs at_ rest many).1 < many ∧ at_ ≤ (draw cs at_ rest many).2.1 ∧ (draw cs at_ rest many).2.1 ≤ at_ + 1 := by
  unfold draw
  split
  · exact ⟨Int.emod_nonneg _ (by omega), Int.emod_lt_of_pos _ h3, by show at_ ≤ at_; omega, by show at_ ≤ at_ + 1; omega⟩
  · split
    · exact ⟨Int.emod_nonneg _ (by omega), Int.emod_lt_of_pos _ h3, by show at_ ≤ at_ + 1; omega, by show at_ + 1 ≤ at_ + 1; omega⟩
    · exact ⟨Int.emod_nonneg _ (by omega), Int.emod_lt_of_pos _ h3, by show at_ ≤ at_ + 1; omega, by show at_ + 1 ≤ at_ + 1; omega⟩
section
variable {call : Cal}
theorem el_nil {s : Sl} {m : Mu} : evL pd.P call [] s m = .ok [] m := by unfold evL; rfl
theorem el_cons {e : E} {es : List E} {s : Sl} {m m1 m2 : Mu} {v : D} {vs : List D} (h : evE pd.P call e s m = .ok v m1) (h2 : evL pd.P call es s m1 = .ok vs m2) : evL pd.P call (e :: es) s m = .ok (v :: vs) m2 := by
  conv => lhs; unfold evL
  rw [h, Res.bind_ok, h2]; rfl
theorem ev_call {f : Nat} {es : List E} {s : Sl} {m m1 m2 : Mu} {d : Df} {as : List D} {v : D} (hd : pd.P.df f = some d) (h : evL pd.P call es s m = .ok as m1) (hl : as.length = d.ps.length) (hc : call f as m1 = .ok v m2) : evE pd.P call (.call f es [] []) s m = .ok v m2 := by
  conv => lhs; unfold evE
  rw [h, Res.bind_ok, el_nil, Res.bind_ok]
  unfold callK
  rw [hd]
  show (match bindK d.ps as [] [] d.dfl with
    | some as => call f as m1
    | none => .stuck) = _
  rw [show bindK d.ps as [] [] d.dfl = some as from bindK_go 0 d.ps as hl]
  exact hc
theorem ev_ix2 {a b : E} {s : Sl} {m m2 : Mu} {xs : List D} {j : Int} {v : D} (ha : evE pd.P call a s m = .ok (.lst xs) m) (hb : evE pd.P call b s m = .ok (.int j) m2) (h : ixD xs j = some v) : evE pd.P call (.ix a b) s m = .ok v m2 := by
  simp [evE, ha, hb, dr, h]
end
theorem ixD_at {xs : List D} {j : Int} (h1 : 0 ≤ j) (h2 : j < xs.length) : ∃ v, xs[j.toNat]? = some v ∧ ixD xs j = some v := by
  have h3 : j.toNat < xs.length := by omega
  refine ⟨xs[j.toNat], List.getElem?_eq_getElem h3, ?_⟩
  unfold ixD ixAt
  rw [if_pos h1, if_pos h3]
  simp [h3]
/-- one of a row -/
theorem one_of (n : Nat) (t : Mu) (cs : List Int) (at_ rest : Int) (xs : List D) (h1 : 0 ≤ at_) (h2 : at_ ≤ 2 ^ 20) (h3 : 0 < xs.length) (h4 : xs.length < 1000) :
    ∃ v at' rest', v ∈ xs ∧ at_ ≤ at' ∧ at' ≤ at_ + 1 ∧ run pd.P (n + 2) 21 [.loc 0, .lst xs] (some (pen cs at_ rest) :: t) = .ok v (some (pen cs at' rest') :: t) := by
  obtain ⟨d1, d2, d3, d4⟩ := draw_nn (cs := cs) (at_ := at_) (rest := rest) (many := (xs.length : Int)) (by omega)
  obtain ⟨v, v1, v2⟩ := ixD_at d1 d2
  refine ⟨v, _, _, List.mem_of_getElem? v1, d3, d4, run_ret (d := d21) rfl rfl rfl (ss_ret' (ret_e (ev_ix2 (ev_var rfl) (ev_call (d := d20) rfl (el_cons (ev_var rfl) (el_cons (ev_bi1 (ev_var rfl) rfl) el_nil)) rfl (draw_run n t cs at_ rest xs.length h1 h2 (by omega) (by omega))) v2))) rfl⟩
end Lw

set_option linter.all false
set_option autoImplicit false
set_option maxRecDepth 100000
set_option maxHeartbeats 4000000
set_option Elab.async false
namespace Lw
open PySem Pv
local macro_rules | `(tactic| walk_at "dr") => `(tactic| first | exact dr_loc _ (by assumption) | ((with_reducible refine dr_end' ?_); exact rfl) | exact dr_loc _ (get_setM (by assumption)) | exact rfl)
local macro_rules | `(tactic| walk_at "get") => `(tactic| first | assumption | ((with_reducible refine get_end' ?_); exact rfl) | exact get_setM (by assumption) | exact rfl)
local macro_rules | `(tactic| walk_at "bmt") => `(tactic| first | exact rfl | ((with_reducible rw [dr_end]); exact rfl) | (rw [dr_loc _ (by walk_at "get")]; exact rfl))
local macro_rules | `(tactic| walk_at "len") => `(tactic| first | exact rfl | exact len_setM | (simp only [List.length_append, List.length_cons, List.length_nil, len_setM]; done))
local macro_rules | `(tactic| walk_at "pv") => `(tactic| repeat (first
  | (refine gE ?_; first | refine we_var rfl ?_ | refine we_int ?_ | refine we_str ?_ | refine we_cmp ?_ | refine we_bin ?_ | refine we_fld ?_ | refine we_ix ?_ | refine we_meth ?_ | refine we_call ?_ | refine we_not ?_ | refine we_and ?_ | refine we_or ?_ | refine we_glo rfl ?_ | refine we_bi ?_ | refine we_bm ?_ | refine we_tup rfl ?_ | refine we_lst rfl ?_ | refine we_lstk rfl ?_ | refine we_isi ?_ | refine we_ite ?_ | refine we_non ?_ | refine we_bl ?_ | refine we_strI ?_ | refine we_dic0 ?_ | refine we_slc ?_ | refine we_neg ?_ | refine we_new ?_ | refine we_rev ?_)
  | (refine gL ?_; first | refine wl_cons ?_ | refine wl_nil ?_)
  | (refine gSs ?_; first | refine wss_cons ?_ | refine wss_nil ?_)
  | (refine gS ?_; first | refine ws_asg ?_ | refine ws_ret ?_ | refine ws_ite ?_ | refine ws_ex ?_ | refine ws_retn ?_ | refine ws_pass ?_ | refine ws_forW ?_ | refine ws_asgf ?_ | refine ws_asgs ?_ | refine ws_par ?_ | refine ws_asgt ?_ | refine ws_raise ?_ | refine ws_try ?_)
  | (refine gIf ?_; first | refine wif_t ?_ | refine wif_f ?_ | refine wif_not ?_ | (with_reducible refine wif_eqt (decide_eq_true rfl) ?_) | refine wif_eqt (decide_eq_true (by omega)) ?_ | refine wif_eqf (decide_eq_false (by omega)) ?_)
  | (refine gT ?_; first | refine wt_bl ?_ | refine wt_int ?_)
  | (refine gC ?_; first | refine wcmp_eqi ?_ | refine wcmp_eqs ?_ | refine wcmp_lt ?_ | refine wcmp_le ?_ | refine wcmp_gt ?_ | refine wcmp_ge ?_ | refine wcmp_nei ?_ | refine wcmp_eqb ?_ | refine wcmp_neb ?_ | refine wcmp_nes ?_ | refine wcmp_in rfl ?_ | refine wcmp_notin rfl ?_ | refine wcmp_isn ?_ | refine wcmp_isnotn ?_)
  | (refine gO2 ?_; first | refine wo_add ?_ | refine wo_sub ?_ | refine wo_addb ?_ | refine wo_addl (by simp only [List.length_append, List.length_cons, List.length_nil, List.length_map]; omega) ?_)
  | (refine gO ?_; first | refine wo_none ?_ | refine wo_some ?_)
  | refine wfk rfl rfl ?_
  | (refine gMeth ?_; refine wmeth (by walk_at "dr") rfl rfl rfl ?_)
  | (refine gFld ?_; first | refine wfld (by walk_at "dr") rfl rfl ?_ | refine wfld_x (by walk_at "dr") rfl rfl ?_)
  | (refine gIx ?_; first | refine wix_t (by walk_at "dr") rfl ?_ | refine wix_l (by walk_at "dr") rfl ?_)
  | (refine gBi ?_; first | (refine wbi_repri ?_ ?_ ?_; (· omega); (· omega)) | refine wbi_reprb ?_ | refine wbi rfl ?_ | refine wbi_lenl (by walk_at "dr") ?_)
  | refine wand_bl ?_ | refine wor_bl ?_ | refine isI ?_ | refine isS ?_ | refine isB ?_
  | refine wasgt rfl ?_ | refine wpar rfl ?_ | refine wraise rfl ?_ | refine witm rfl ?_ | refine wrng rfl ?_
  | (refine gAsgF ?_; first | ((with_reducible refine wasgfE ?_ ?_); (· exact rfl)) | refine wasgf (by walk_at "get") rfl ?_) | (refine gAsgS ?_; refine wasgs (by walk_at "get") rfl ?_)
  | (refine gBmT ?_; refine wbmt (by walk_at "bmt") ?_)
  | (refine gBm ?_; first | ((with_reducible refine wbm_appE ?_ ?_); (· first | omega | (simp; done) | (simp; omega))) | ((with_reducible refine wbm_extE ?_ ?_); (· first | omega | (simp; done) | (simp; omega))) | with_reducible refine wbm_popE ?_ | refine wbm rfl ?_)
  | refine wisi rfl ?_
  | (refine gSlc ?_; first | refine wslc_l (by walk_at "dr") ?_ | refine wslc_t (by walk_at "dr") ?_)
  | (refine gRev ?_; refine wrev (by walk_at "dr") ?_)
  | refine wstr_s ?_ | refine tr_mkf ?_ | refine tr_mkt ?_ | refine wts_nil ?_ | refine wts_cons ?_ | refine wi_seq ?_ | refine wi_rng ?_ | refine wfor_nil ?_ | ((with_reducible refine wfor_cons (s' := ?_) ?_ ?_); rotate_left 1; exact rfl) | (refine gLv ?_; refine lv_eq (by walk_at "len") ?_)
  | (refine gEnd ?_; refine wend (by walk_at "len") ?_) | (refine gEndX ?_; refine wendx (by walk_at "len") ?_)))
def scan (its : List Str) (a : Nat) : D := .ins 4 [(2, .lst (its.map .str)), (3, .int a)]
/-! ### questions as trees -/
inductive Q where
  | pl (w a b : Str) | nt (q : Q) | lk (w a : Str) (q : Q) | jn (w : Str) (p q : Q)
abbrev plW : List Str := ["tied", "same"]
abbrev lkW : List Str := ["some", "all"]
abbrev jnW : List Str := ["and", "or"]
abbrev nmW : List Str := ["x", "y", "z"]
def Q.ok : Q → Prop
  | .pl w a b => w ∈ plW ∧ a ∈ nmW ∧ b ∈ nmW
  | .nt q => q.ok
  | .lk w a q => w ∈ lkW ∧ a ∈ nmW ∧ q.ok
  | .jn w p q => w ∈ jnW ∧ p.ok ∧ q.ok
def Q.items : Q → List Str
  | .pl w a b => [w, a, b]
  | .nt q => "not" :: q.items
  | .lk w a q => w :: a :: q.items
  | .jn w p q => w :: (p.items ++ q.items)
def Q.looks : Q → Nat
  | .pl _ _ _ => 0
  | .nt q => q.looks
  | .lk _ _ q => q.looks + 1
  | .jn _ p q => max p.looks q.looks
theorem Q.len3 : ∀ q : Q, 3 ≤ q.items.length
  | .pl _ _ _ => Nat.le_refl 3
  | .nt q => by have := q.len3; simp only [Q.items, List.length_cons]; omega
  | .lk _ _ q => by have := q.len3; simp only [Q.items, List.length_cons]; omega
  | .jn _ p q => by have := p.len3; simp only [Q.items, List.length_cons, List.length_append]; omega
abbrev dS (l : List Str) : List D := l.map D.str
theorem is_done (n : Nat) {m : Mu} {k a : Nat} {its : List Str} (h : m[k]? = some (some (scan its a))) : run pd.P (n + 1) 1 [.loc k] m = .ok (.bl (decide (a = its.length))) m := by
  refine wf_get (wrunK [some (.loc k)] rfl rfl rfl ?_)
  walk_at "pv"
  refine ⟨?_, rfl⟩
  simp only [List.length_map, Int.ofNat_inj]
theorem ahead_w (n : Nat) {m : Mu} {k a : Nat} {its : List Str} {x : Str} (h : m[k]? = some (some (scan its a))) (hx : its[a]? = some x) : run pd.P (n + 2) 2 [.loc k] m = .ok (.str x) m := by
  have := (List.getElem?_eq_some_iff.mp hx).1
  refine wf_get (wrunK [some (.loc k)] rfl rfl rfl ?_)
  walk_at "pv"
  refine wf_eq (is_done n h) ?_
  walk_at "pv"
  refine wix (sqq_l (by rfl)) (ixD_nat (v := .str x) (by simp [hx])) ?_
  walk_at "pv"
  exact ⟨rfl, rfl⟩
theorem take_w (n : Nat) {m : Mu} {k a : Nat} {its : List Str} {x : Str} (h : m[k]? = some (some (scan its a))) (hx : its[a]? = some x) : run pd.P (n + 2) 4 [.loc k] m = .ok (.str x) (setM m k (scan its (a + 1))) := by
  have := (List.getElem?_eq_some_iff.mp hx).1
  refine wf_get (wrunK [some (.loc k)] rfl rfl rfl ?_)
  walk_at "pv"
  refine wf_eq (is_done _ h) ?_
  walk_at "pv"
  refine wix (sqq_l (by walk_at "dr")) (j := ((a + 1 : Nat) : Int) - 1) (v := .str x) (by rw [show ((a + 1 : Nat) : Int) - 1 = (a : Nat) by omega]; exact ixD_nat (by simp [hx])) ?_
  walk_at "pv"
  exact ⟨rfl, rfl⟩
theorem take1_w (n : Nat) {m : Mu} {k a : Nat} {its : List Str} {x : Str} (h : m[k]? = some (some (scan its a))) (hx : its[a]? = some x) (hn : x ∈ nmW) : run pd.P (n + 3) 5 [.loc k, .tup (dS nmW)] m = .ok (.str x) (setM m k (scan its (a + 1))) := by
  have := (List.getElem?_eq_some_iff.mp hx).1
  refine wf_get ?_
  simp only [nmW, List.mem_cons, List.not_mem_nil, or_false] at hn
  rcases hn with rfl | rfl | rfl
  all_goals (
    refine (wrunK [some (.loc k), some (.tup (dS nmW))] rfl rfl rfl ?_)
    walk_at "pv"
    refine wf_eq (is_done _ h) ?_
    walk_at "pv"
    refine wf_eq (ahead_w _ h hx) ?_
    walk_at "pv"
    refine wf_eq (take_w _ h hx) ?_
    walk_at "pv"
    exact ⟨rfl, rfl⟩)
theorem finish_w (n : Nat) {m : Mu} {k : Nat} {its : List Str} (h : m[k]? = some (some (scan its its.length))) : run pd.P (n + 2) 6 [.loc k] m = .ok .non m := by
  refine wf_get (wrunK [some (.loc k)] rfl rfl rfl ?_)
  walk_at "pv"
  refine wf_eq (is_done _ h) ?_
  walk_at "pv"
  exact ⟨rfl, rfl⟩
/-- a question's root -/
def Q.enc : Q → D
  | .pl w a b => .tup [.str w, .str a, .str b]
  | .nt q => .tup [.str "not", q.enc]
  | .lk w a q => .tup [.str w, .str a, q.enc]
  | .jn w p q => .tup [.str w, p.enc, q.enc]
def Q.dep : Q → Nat
  | .pl _ _ _ => 0
  | .nt q => q.dep + 1
  | .lk _ _ q => q.dep + 1
  | .jn _ p q => max p.dep q.dep + 1
def Q.free : Q → List Str
  | .pl _ a b => [a, b]
  | .nt q => q.free
  | .lk _ a q => q.free.filter (fun x => decide (x ≠ a))
  | .jn _ p q => p.free ++ q.free
theorem get_at {pre q post : List Str} {i : Nat} {x : Str} (h : q[i]? = some x) : (pre ++ (q ++ post))[pre.length + i]? = some x := by
  have h1 := (List.getElem?_eq_some_iff.mp h).1
  rw [List.getElem?_append_right (by omega), show pre.length + i - pre.length = i by omega, List.getElem?_append_left h1, h]

theorem scan_next {m : Mu} {k a i : Nat} {its : List Str} (h : m[k]? = some (some (scan its a))) : (setM m k (scan its i))[k]? = some (some (scan its i)) := get_setM h
theorem root_w : ∀ (q : Q), q.ok → ∀ (n : Nat) {m : Mu} {k : Nat} {pre post : List Str} {b : Nat}, m[k]? = some (some (scan (pre ++ (q.items ++ post)) pre.length)) →
    (pre ++ (q.items ++ post)).length ≤ 40 → b ≤ post.length → q.dep + 4 ≤ n → run pd.P n 8 [.loc k, .int b] m = .ok q.enc (setM m k (scan (pre ++ (q.items ++ post)) (pre.length + q.items.length)))
  | .pl w a b, ok, n, m, k, pre, post, bh, h, hl, hb, hn => by
    obtain ⟨n, rfl⟩ : ∃ j, n = j + 4 := ⟨n - 4, by omega⟩
    have g0 : (pre ++ ((Q.pl w a b).items ++ post))[pre.length]? = some w := get_at (i := 0) rfl
    have g1 : (pre ++ ((Q.pl w a b).items ++ post))[pre.length + 1]? = some a := get_at (i := 1) rfl
    have g2 : (pre ++ ((Q.pl w a b).items ++ post))[pre.length + 1 + 1]? = some b := get_at (i := 2) rfl
    have hl2 : pre.length + (3 + post.length) ≤ 40 := by simp [Q.items] at hl; omega
    generalize pre ++ ((Q.pl w a b).items ++ post) = its at *
    obtain ⟨hw, ha, hb'⟩ := ok
    refine wf_get ?_
    simp only [plW, List.mem_cons, List.not_mem_nil, or_false] at hw
    rcases hw with rfl | rfl
    all_goals (
      refine (wrunK [some (.loc k), some (.int bh), none, none, none, none] rfl rfl rfl ?_)
      walk_at "pv"
      refine wf_eq (ahead_w _ h g0) ?_
      walk_at "pv"
      refine wf_eq (take_w _ h g0) ?_
      walk_at "pv"
      refine wf_eq (take1_w _ (scan_next h) g1 ha) ?_
      rw [setM_setM]
      walk_at "pv"
      refine wf_eq (take1_w _ (scan_next h) g2 hb') ?_
      rw [setM_setM]
      walk_at "pv"
      exact ⟨rfl, rfl⟩)
  | .nt q, ok, n, m, k, pre, post, bh, h, hl, hb, hn => by
    obtain ⟨n, rfl⟩ : ∃ j, n = j + 4 := ⟨n - 4, by omega⟩
    have g0 : (pre ++ ((Q.nt q).items ++ post))[pre.length]? = some ("not" : Str) := get_at (i := 0) rfl
    have h3 := q.len3
    have hl2 : pre.length + (1 + q.items.length + post.length) ≤ 40 := by simp [Q.items] at hl; omega
    have e : pre ++ ((Q.nt q).items ++ post) = (pre ++ [("not" : Str)]) ++ (q.items ++ post) := by simp [Q.items]
    have ep : (pre ++ [("not" : Str)]).length = pre.length + 1 := by simp
    have ih := fun h => root_w q ok (n + 3) (m := setM m k (scan ((pre ++ [("not" : Str)]) ++ (q.items ++ post)) (pre.length + 1))) (k := k) (pre := pre ++ [("not" : Str)]) (post := post) (b := bh) h (by rw [← e]; exact hl) hb (by simp [Q.dep] at hn; omega)
    rw [ep, ← e] at ih
    have el : pre.length + (Q.nt q).items.length = pre.length + 1 + q.items.length := by simp [Q.items]; omega
    rw [el]
    generalize pre ++ ((Q.nt q).items ++ post) = its at *
    refine wf_get (wrunK [some (.loc k), some (.int bh), none, none, none, none] rfl rfl rfl ?_)
    walk_at "pv"
    refine wf_eq (ahead_w _ h g0) ?_
    walk_at "pv"
    refine wf_eq (take_w _ h g0) ?_
    walk_at "pv"
    refine wf_eq (ih (scan_next h)) ?_
    rw [setM_setM]
    walk_at "pv"
    exact ⟨rfl, rfl⟩
  | .lk w a q, ok, n, m, k, pre, post, bh, h, hl, hb, hn => by
    obtain ⟨n, rfl⟩ : ∃ j, n = j + 4 := ⟨n - 4, by omega⟩
    have g0 : (pre ++ ((Q.lk w a q).items ++ post))[pre.length]? = some w := get_at (i := 0) rfl
    have g1 : (pre ++ ((Q.lk w a q).items ++ post))[pre.length + 1]? = some a := get_at (i := 1) rfl
    have h3 := q.len3
    have hl2 : pre.length + (2 + q.items.length + post.length) ≤ 40 := by simp [Q.items] at hl; omega
    have e : pre ++ ((Q.lk w a q).items ++ post) = (pre ++ [w, a]) ++ (q.items ++ post) := by simp [Q.items]
    have ep : (pre ++ [w, a]).length = pre.length + 1 + 1 := by simp
    obtain ⟨hw, ha, ok⟩ := ok
    have ih := fun h => root_w q ok (n + 3) (m := setM m k (scan ((pre ++ [w, a]) ++ (q.items ++ post)) (pre.length + 1 + 1))) (k := k) (pre := pre ++ [w, a]) (post := post) (b := bh) h (by rw [← e]; exact hl) hb (by simp [Q.dep] at hn; omega)
    rw [ep, ← e] at ih
    have el : pre.length + (Q.lk w a q).items.length = pre.length + 1 + 1 + q.items.length := by simp [Q.items]; omega
    rw [el]
    generalize pre ++ ((Q.lk w a q).items ++ post) = its at *
    refine wf_get ?_
    simp only [lkW, List.mem_cons, List.not_mem_nil, or_false] at hw
    rcases hw with rfl | rfl
    all_goals (
      refine (wrunK [some (.loc k), some (.int bh), none, none, none, none] rfl rfl rfl ?_)
      walk_at "pv"
      refine wf_eq (ahead_w _ h g0) ?_
      walk_at "pv"
      refine wf_eq (take_w _ h g0) ?_
      walk_at "pv"
      refine wf_eq (take1_w _ (scan_next h) g1 ha) ?_
      rw [setM_setM]
      walk_at "pv"
      refine wf_eq (ih (scan_next h)) ?_
      rw [setM_setM]
      walk_at "pv"
      exact ⟨rfl, rfl⟩)
  | .jn w p q, ok, n, m, k, pre, post, bh, h, hl, hb, hn => by
    obtain ⟨n, rfl⟩ : ∃ j, n = j + 4 := ⟨n - 4, by omega⟩
    have g0 : (pre ++ ((Q.jn w p q).items ++ post))[pre.length]? = some w := get_at (i := 0) rfl
    have h3 := q.len3
    have h4 := p.len3
    have hl2 : pre.length + (1 + p.items.length + q.items.length + post.length) ≤ 40 := by simp [Q.items] at hl; omega
    have e : pre ++ ((Q.jn w p q).items ++ post) = (pre ++ [w]) ++ (p.items ++ (q.items ++ post)) := by simp [Q.items]
    have e2 : pre ++ ((Q.jn w p q).items ++ post) = (pre ++ w :: p.items) ++ (q.items ++ post) := by simp [Q.items]
    have ep : (pre ++ [w]).length = pre.length + 1 := by simp
    have ep2 : (pre ++ w :: p.items).length = pre.length + 1 + p.items.length := by simp; omega
    obtain ⟨hw, okp, ok⟩ := ok
    simp only [Q.dep] at hn
    have ih := fun h => root_w p okp (n + 3) (m := setM m k (scan ((pre ++ [w]) ++ (p.items ++ (q.items ++ post))) (pre.length + 1))) (k := k) (pre := pre ++ [w]) (post := q.items ++ post) (b := bh + 3) h (by rw [← e]; exact hl) (by rw [List.length_append]; omega) (by omega)
    have ih2 := fun h => root_w q ok (n + 3) (m := setM m k (scan ((pre ++ w :: p.items) ++ (q.items ++ post)) (pre.length + 1 + p.items.length))) (k := k) (pre := pre ++ w :: p.items) (post := post) (b := bh) h (by rw [← e2]; exact hl) hb (by omega)
    rw [ep, ← e] at ih
    rw [ep2, ← e2] at ih2
    have el : pre.length + (Q.jn w p q).items.length = pre.length + 1 + p.items.length + q.items.length := by simp [Q.items]; omega
    rw [el]
    generalize pre ++ ((Q.jn w p q).items ++ post) = its at *
    refine wf_get ?_
    simp only [jnW, List.mem_cons, List.not_mem_nil, or_false] at hw
    rcases hw with rfl | rfl
    all_goals (
      refine (wrunK [some (.loc k), some (.int bh), none, none, none, none] rfl rfl rfl ?_)
      walk_at "pv"
      refine wf_eq (ahead_w _ h g0) ?_
      walk_at "pv"
      refine wf_eq (take_w _ h g0) ?_
      walk_at "pv"
      refine wf_eq (ih (scan_next h)) ?_
      rw [setM_setM]
      walk_at "pv"
      refine wf_eq (ih2 (scan_next h)) ?_
      rw [setM_setM]
      walk_at "pv"
      exact ⟨rfl, rfl⟩)
/-! ### the items of a root -/
theorem enc_nl {b : Nat} : ∀ q : Q, nl b q.enc = true
  | .pl _ _ _ => rfl
  | .nt q => by unfold Q.enc; simp [nl, nls, enc_nl q]
  | .lk _ _ q => by unfold Q.enc; simp [nl, nls, enc_nl q]
  | .jn _ p q => by unfold Q.enc; simp [nl, nls, enc_nl q, enc_nl p]
theorem enc_str (m : Mu) : ∀ q : Q, isAny pd.P (dr m q.enc) [.bty "str"] = some false
  | .pl _ _ _ => rfl
  | .nt q => rfl
  | .lk _ _ q => rfl
  | .jn _ p q => rfl
theorem items_w : ∀ (q : Q), ∀ (n : Nat) {m : Mu}, nlM m.length m → q.items.length ≤ 1000 → q.dep + 1 ≤ n → run pd.P n 9 [q.enc] m = .ok (.lst (dS q.items)) m
  | .pl w a b, n, m, hm, hl, hn => by
    obtain ⟨n, rfl⟩ : ∃ j, n = j + 1 := ⟨n - 1, by omega⟩
    refine wf_get (wrunK [some (Q.pl w a b).enc, none, none] rfl rfl rfl ?_)
    walk_at "pv"
    refine wend_cut hm (w := .lst (dS [w, a, b])) (lay_at get_end (Nat.le_refl _) (nls_strs [w, a, b])) ?_ (by simp)
    exact ⟨rfl, rfl⟩
  | .nt q, n, m, hm, hl, hn => by
    obtain ⟨n, rfl⟩ : ∃ j, n = j + 1 := ⟨n - 1, by omega⟩
    simp only [Q.items, List.length_cons] at hl
    simp only [Q.dep] at hn
    have ih := items_w q n (m := m ++ [some (.lst [.str "not"])]) (nlM_push hm rfl) (by omega) (by omega)
    refine wf_get (wrunK [some (Q.nt q).enc, none, none] rfl rfl rfl ?_)
    walk_at "pv"
    refine wisi (enc_str _ q) ?_
    walk_at "pv"
    refine wf_eq ih ?_
    walk_at "pv"
    refine wend_cut hm (w := .lst (dS (Q.nt q).items)) (lay_at get_end (Nat.le_refl _) (nls_strs (Q.nt q).items)) ?_ (by simp)
    exact ⟨rfl, rfl⟩
  | .lk w a q, n, m, hm, hl, hn => by
    obtain ⟨n, rfl⟩ : ∃ j, n = j + 1 := ⟨n - 1, by omega⟩
    simp only [Q.items, List.length_cons] at hl
    simp only [Q.dep] at hn
    have ih := items_w q n (m := m ++ [some (.lst [.str w, .str a])]) (nlM_push hm rfl) (by omega) (by omega)
    refine wf_get (wrunK [some (Q.lk w a q).enc, none, none] rfl rfl rfl ?_)
    walk_at "pv"
    refine wisi (enc_str _ q) ?_
    walk_at "pv"
    refine wf_eq ih ?_
    walk_at "pv"
    refine wend_cut hm (w := .lst (dS (Q.lk w a q).items)) (lay_at get_end (Nat.le_refl _) (nls_strs (Q.lk w a q).items)) ?_ (by simp)
    exact ⟨rfl, rfl⟩
  | .jn w p q, n, m, hm, hl, hn => by
    obtain ⟨n, rfl⟩ : ∃ j, n = j + 1 := ⟨n - 1, by omega⟩
    simp only [Q.items, List.length_cons, List.length_append] at hl
    simp only [Q.dep] at hn
    have ih := items_w p n (m := m ++ [some (.lst [.str w])]) (nlM_push hm rfl) (by omega) (by omega)
    have ih2 := items_w q n (m := m ++ [some (.lst ([.str w] ++ dS p.items))]) (nlM_push hm (nl_lst (nls_append rfl (nls_strs _)))) (by omega) (by omega)
    refine wf_get (wrunK [some (Q.jn w p q).enc, none, none] rfl rfl rfl ?_)
    walk_at "pv"
    refine wisi (enc_str _ p) ?_
    walk_at "pv"
    refine wf_eq ih ?_
    walk_at "pv"
    refine wisi (enc_str _ q) ?_
    walk_at "pv"
    refine wf_eq ih2 ?_
    walk_at "pv"
    have e : [D.str w] ++ dS p.items ++ dS q.items = dS (Q.jn w p q).items := by simp [Q.items]
    show WEnd _ _ _ (m ++ [some (.lst ([D.str w] ++ dS p.items ++ dS q.items))]) _ _
    rw [e]
    refine wend_cut hm (w := .lst (dS (Q.jn w p q).items)) (lay_at get_end (Nat.le_refl _) (nls_strs (Q.jn w p q).items)) ?_ (by simp)
    exact ⟨rfl, rfl⟩
/-! ### free names, looks -/
theorem free_len : ∀ q : Q, q.free.length ≤ q.items.length
  | .pl _ _ _ => by simp [Q.free, Q.items]
  | .nt q => by simp only [Q.free, Q.items, List.length_cons]; have := free_len q; omega
  | .lk _ a q => by
    simp only [Q.free, Q.items, List.length_cons]
    have := free_len q
    have := List.length_filter_le (fun x => decide (x ≠ a)) q.free
    omega
  | .jn _ p q => by simp only [Q.free, Q.items, List.length_cons, List.length_append]; have := free_len q; have := free_len p; omega
def notN (a : Str) : D → Option D
  | .str x => if x = a then none else some (.str x)
  | _ => none
theorem fm_notN (a : Str) : ∀ l : List Str, (dS l).filterMap (notN a) = dS (l.filter fun x => decide (x ≠ a))
  | [] => rfl
  | x :: l => by
    by_cases h : x = a
    · simp only [List.map_cons, List.filterMap_cons, notN, if_pos h, fm_notN a l]
      rw [List.filter_cons_of_neg (by simp [h])]
    · simp only [List.map_cons, List.filterMap_cons, notN, if_neg h, fm_notN a l]
      rw [List.filter_cons_of_pos (by simp [h])]
      rfl
theorem fm_some : ∀ l : List Str, (dS l).filterMap some = dS l := fun l => by simp
theorem free_w : ∀ (q : Q), q.ok → ∀ (n : Nat) {m : Mu}, q.items.length ≤ 1000 → q.dep + 1 ≤ n → run pd.P n 10 [q.enc] m = .ok (.lst (dS q.free)) m
  | .pl w a b, ok, n, m, hl, hn => by
    obtain ⟨n, rfl⟩ : ∃ j, n = j + 1 := ⟨n - 1, by omega⟩
    refine wf_get ?_
    obtain ⟨hw, ha, hb'⟩ := ok
    simp only [plW, List.mem_cons, List.not_mem_nil, or_false] at hw
    rcases hw with rfl | rfl
    all_goals (
      refine wrunK [some (Q.pl _ a b).enc, none, none] rfl rfl rfl ?_
      walk_at "pv"
      exact ⟨rfl, rfl⟩)
  | .lk w a q, ok, n, m, hl, hn => by
    obtain ⟨n, rfl⟩ : ∃ j, n = j + 1 := ⟨n - 1, by omega⟩
    simp only [Q.items, List.length_cons] at hl
    simp only [Q.dep] at hn
    have ih := free_w q ok.2.2 n (m := m) (by omega) (by omega)
    have hf := free_len q
    refine wf_get ?_
    obtain ⟨hw, ha, hb'⟩ := ok
    simp only [lkW, List.mem_cons, List.not_mem_nil, or_false] at hw
    rcases hw with rfl | rfl
    all_goals (
      refine wrunK [some (Q.lk _ a q).enc, none, none] rfl rfl rfl ?_
      walk_at "pv"
      refine we_comp (notN a) ?_
      walk_at "pv"
      refine wf_eq ih ?_
      walk_at "pv"
      rw [fm_notN]
      refine ⟨?_, ?_, ?_⟩
      · have := List.length_filter_le (fun x => decide (x ≠ a)) q.free
        rw [List.length_map]; omega
      · intro d hd
        obtain ⟨x, hx, rfl⟩ := List.mem_map.mp hd
        refine wone rfl ?_
        walk_at "pv"
        refine wif_dec (fun h => ?_) (fun h => ?_)
        · walk_at "pv"
          exact ⟨by simp [notN, h], rfl⟩
        · walk_at "pv"
          exact ⟨by simp [notN, h], rfl⟩
      · walk_at "pv"
        exact ⟨rfl, rfl⟩)
  | .nt q, ok, n, m, hl, hn => by
    obtain ⟨n, rfl⟩ : ∃ j, n = j + 1 := ⟨n - 1, by omega⟩
    simp only [Q.items, List.length_cons] at hl
    simp only [Q.dep] at hn
    have ih := free_w q ok n (m := m) (by omega) (by omega)
    have hf := free_len q
    refine wf_get (wrunK [some (Q.nt q).enc, none, none] rfl rfl rfl ?_)
    walk_at "pv"
    refine we_comp2 (fun _ => dS q.free) (fun _ => some) ?_
    walk_at "pv"
    refine ⟨?_, ?_, ?_⟩
    · simp [slice, clip]; omega
    · intro d hd
      have e : d = q.enc := by simpa [slice, clip] using hd
      subst e
      refine wtwo rfl ?_
      walk_at "pv"
      refine wf_eq ih ?_
      walk_at "pv"
      refine ⟨rfl, fm_some _, fun d2 h2 => ?_⟩
      refine wone rfl ?_
      walk_at "pv"
      exact ⟨rfl, rfl⟩
    · walk_at "pv"
      refine ⟨?_, rfl⟩
      simp [slice, clip, Q.free]
  | .jn w p q, ok, n, m, hl, hn => by
    obtain ⟨n, rfl⟩ : ∃ j, n = j + 1 := ⟨n - 1, by omega⟩
    simp only [Q.items, List.length_cons, List.length_append] at hl
    simp only [Q.dep] at hn
    have ih := free_w p ok.2.1 n (m := m) (by omega) (by omega)
    have ih2 := free_w q ok.2.2 n (m := m) (by omega) (by omega)
    have hf := free_len q
    have hf2 := free_len p
    refine wf_get ?_
    obtain ⟨hw, ha, hb'⟩ := ok
    simp only [jnW, List.mem_cons, List.not_mem_nil, or_false] at hw
    rcases hw with rfl | rfl
    all_goals (
      refine wrunK [some (Q.jn _ p q).enc, none, none] rfl rfl rfl ?_
      walk_at "pv"
      refine we_comp2 (fun d => valsOf (run pd.P n 10 [d] m)) (fun _ => some) ?_
      walk_at "pv"
      refine ⟨?_, ?_, ?_⟩
      · simp [slice, clip, ih, ih2, valsOf]; omega
      · intro d hd
        have e : d = p.enc ∨ d = q.enc := by simpa [slice, clip] using hd
        rcases e with rfl | rfl
        all_goals (
          refine wtwo rfl ?_
          walk_at "pv"
          first | refine wf_eq ih ?_ | refine wf_eq ih2 ?_
          walk_at "pv"
          refine ⟨rfl, by first | rw [ih] | rw [ih2]
                          exact fm_some _, fun d2 h2 => ?_⟩
          refine wone rfl ?_
          walk_at "pv"
          exact ⟨rfl, rfl⟩)
      · walk_at "pv"
        refine ⟨?_, rfl⟩
        simp [slice, clip, Q.free, ih, ih2, valsOf])
theorem looks_w : ∀ (q : Q), q.ok → ∀ (n : Nat) {m : Mu}, q.items.length ≤ 1000 → q.dep + 1 ≤ n → run pd.P n 11 [q.enc] m = .ok (.int q.looks) m
  | .pl w a b, ok, n, m, hl, hn => by
    obtain ⟨n, rfl⟩ : ∃ j, n = j + 1 := ⟨n - 1, by omega⟩
    refine wf_get ?_
    obtain ⟨hw, ha, hb'⟩ := ok
    simp only [plW, List.mem_cons, List.not_mem_nil, or_false] at hw
    rcases hw with rfl | rfl
    all_goals (
      refine wrunK [some (Q.pl _ a b).enc, none] rfl rfl rfl ?_
      walk_at "pv"
      exact ⟨rfl, rfl⟩)
  | .lk w a q, ok, n, m, hl, hn => by
    obtain ⟨n, rfl⟩ : ∃ j, n = j + 1 := ⟨n - 1, by omega⟩
    simp only [Q.items, List.length_cons] at hl
    simp only [Q.dep] at hn
    have ih := looks_w q ok.2.2 n (m := m) (by omega) (by omega)
    refine wf_get ?_
    obtain ⟨hw, ha, hb'⟩ := ok
    simp only [lkW, List.mem_cons, List.not_mem_nil, or_false] at hw
    rcases hw with rfl | rfl
    all_goals (
      refine wrunK [some (Q.lk _ a q).enc, none] rfl rfl rfl ?_
      walk_at "pv"
      refine wf_eq ih ?_
      walk_at "pv"
      refine ⟨?_, rfl⟩
      rw [Q.looks]
      congr 1
      omega)
  | .nt q, ok, n, m, hl, hn => by
    obtain ⟨n, rfl⟩ : ∃ j, n = j + 1 := ⟨n - 1, by omega⟩
    simp only [Q.items, List.length_cons] at hl
    simp only [Q.dep] at hn
    have ih := looks_w q ok n (m := m) (by omega) (by omega)
    refine wf_get (wrunK [some (Q.nt q).enc, none] rfl rfl rfl ?_)
    walk_at "pv"
    refine we_comp (fun _ => some (.int q.looks)) ?_
    walk_at "pv"
    refine ⟨?_, ?_, ?_⟩
    · simp [slice, clip]
    · intro d hd
      have e : d = q.enc := by simpa [slice, clip] using hd
      subst e
      refine wone rfl ?_
      walk_at "pv"
      refine wf_eq ih ?_
      exact ⟨rfl, rfl⟩
    · walk_at "pv"
      exact ⟨rfl, rfl⟩
  | .jn w p q, ok, n, m, hl, hn => by
    obtain ⟨n, rfl⟩ : ∃ j, n = j + 1 := ⟨n - 1, by omega⟩
    simp only [Q.items, List.length_cons, List.length_append] at hl
    simp only [Q.dep] at hn
    have ih := looks_w p ok.2.1 n (m := m) (by omega) (by omega)
    have ih2 := looks_w q ok.2.2 n (m := m) (by omega) (by omega)
    refine wf_get ?_
    obtain ⟨hw, ha, hb'⟩ := ok
    simp only [jnW, List.mem_cons, List.not_mem_nil, or_false] at hw
    rcases hw with rfl | rfl
    all_goals (
      refine wrunK [some (Q.jn _ p q).enc, none] rfl rfl rfl ?_
      walk_at "pv"
      refine we_comp (fun d => some (valOf (run pd.P n 11 [d] m))) ?_
      walk_at "pv"
      refine ⟨?_, ?_, ?_⟩
      · simp [slice, clip]
      · intro d hd
        have e : d = p.enc ∨ d = q.enc := by simpa [slice, clip] using hd
        rcases e with rfl | rfl
        all_goals (
          refine wone rfl ?_
          walk_at "pv"
          first | refine wf_eq ih ?_ | refine wf_eq ih2 ?_
          exact ⟨by first | rw [ih]; rfl | rw [ih2]; rfl, rfl⟩)
      · have e : ∀ w : D, (slice [w, p.enc, q.enc] (some 1) none).filterMap (fun d => some (valOf (run pd.P n 11 [d] m))) = [D.int p.looks, D.int q.looks] := fun w => by simp [slice, clip, ih, ih2, valOf]
        rw [e]
        walk_at "pv"
        refine ⟨?_, rfl⟩
        show D.int (if (q.looks : Int) > p.looks then q.looks else p.looks) = .int ((max p.looks q.looks : Nat) : Int)
        congr 1
        split <;> omega)
end Lw

set_option linter.all false
set_option autoImplicit false
set_option maxRecDepth 100000
set_option maxHeartbeats 4000000
set_option Elab.async false
namespace Lw
open PySem Pv
local macro_rules | `(tactic| walk_at "dr") => `(tactic| first | exact dr_loc _ (by assumption) | ((with_reducible refine dr_end' ?_); exact rfl) | exact dr_loc _ (get_setM (by assumption)) | exact rfl)
local macro_rules | `(tactic| walk_at "get") => `(tactic| first | assumption | ((with_reducible refine get_end' ?_); exact rfl) | exact get_setM (by assumption) | exact rfl)
local macro_rules | `(tactic| walk_at "bmt") => `(tactic| first | exact rfl | ((with_reducible rw [dr_end]); exact rfl) | (rw [dr_loc _ (by walk_at "get")]; exact rfl))
local macro_rules | `(tactic| walk_at "len") => `(tactic| first | exact rfl | exact len_setM | (simp only [List.length_append, List.length_cons, List.length_nil, len_setM]; done))
local macro_rules | `(tactic| walk_at "pv") => `(tactic| repeat (first
  | (refine gE ?_; first | refine we_var rfl ?_ | refine we_int ?_ | refine we_str ?_ | refine we_cmp ?_ | refine we_bin ?_ | refine we_fld ?_ | refine we_ix ?_ | refine we_meth ?_ | refine we_call ?_ | refine we_not ?_ | refine we_and ?_ | refine we_or ?_ | refine we_glo rfl ?_ | refine we_bi ?_ | refine we_bm ?_ | refine we_tup rfl ?_ | refine we_lst rfl ?_ | refine we_lstk rfl ?_ | refine we_isi ?_ | refine we_ite ?_ | refine we_non ?_ | refine we_bl ?_ | refine we_strI ?_ | refine we_dic0 ?_ | refine we_slc ?_ | refine we_neg ?_ | refine we_new ?_ | refine we_rev ?_)
  | (refine gL ?_; first | refine wl_cons ?_ | refine wl_nil ?_)
  | (refine gSs ?_; first | refine wss_cons ?_ | refine wss_nil ?_)
  | (refine gS ?_; first | refine ws_asg ?_ | refine ws_ret ?_ | refine ws_ite ?_ | refine ws_ex ?_ | refine ws_retn ?_ | refine ws_pass ?_ | refine ws_forW ?_ | refine ws_asgf ?_ | refine ws_asgs ?_ | refine ws_par ?_ | refine ws_asgt ?_ | refine ws_raise ?_ | refine ws_try ?_)
  | (refine gIf ?_; first | refine wif_t ?_ | refine wif_f ?_ | refine wif_not ?_ | (with_reducible refine wif_eqt (decide_eq_true rfl) ?_) | refine wif_eqt (decide_eq_true (by omega)) ?_ | refine wif_eqf (decide_eq_false (by omega)) ?_)
  | (refine gT ?_; first | refine wt_bl ?_ | refine wt_int ?_)
  | (refine gC ?_; first | refine wcmp_eqi ?_ | refine wcmp_eqs ?_ | refine wcmp_lt ?_ | refine wcmp_le ?_ | refine wcmp_gt ?_ | refine wcmp_ge ?_ | refine wcmp_nei ?_ | refine wcmp_eqb ?_ | refine wcmp_neb ?_ | refine wcmp_nes ?_ | refine wcmp_in rfl ?_ | refine wcmp_notin rfl ?_ | refine wcmp_isn ?_ | refine wcmp_isnotn ?_)
  | (refine gO2 ?_; first | refine wo_add ?_ | refine wo_sub ?_ | refine wo_addb ?_ | refine wo_addl (by simp only [List.length_append, List.length_cons, List.length_nil, List.length_map]; omega) ?_)
  | (refine gO ?_; first | refine wo_none ?_ | refine wo_some ?_)
  | refine wfk rfl rfl ?_
  | (refine gMeth ?_; refine wmeth (by walk_at "dr") rfl rfl rfl ?_)
  | (refine gFld ?_; first | refine wfld (by walk_at "dr") rfl rfl ?_ | refine wfld_x (by walk_at "dr") rfl rfl ?_)
  | (refine gIx ?_; first | refine wix_t (by walk_at "dr") rfl ?_ | refine wix_l (by walk_at "dr") rfl ?_)
  | (refine gBi ?_; first | (refine wbi_repri ?_ ?_ ?_; (· omega); (· omega)) | refine wbi_reprb ?_ | refine wbi rfl ?_ | refine wbi_lenl (by walk_at "dr") ?_)
  | refine wand_bl ?_ | refine wor_bl ?_ | refine isI ?_ | refine isS ?_ | refine isB ?_
  | refine wasgt rfl ?_ | refine wpar rfl ?_ | refine wraise rfl ?_ | refine witm rfl ?_ | refine wrng rfl ?_
  | (refine gAsgF ?_; first | ((with_reducible refine wasgfE ?_ ?_); (· exact rfl)) | refine wasgf (by walk_at "get") rfl ?_) | (refine gAsgS ?_; refine wasgs (by walk_at "get") rfl ?_)
  | (refine gBmT ?_; refine wbmt (by walk_at "bmt") ?_)
  | (refine gBm ?_; first | ((with_reducible refine wbm_appE ?_ ?_); (· first | omega | (simp; done) | (simp; omega))) | ((with_reducible refine wbm_extE ?_ ?_); (· first | omega | (simp; done) | (simp; omega))) | with_reducible refine wbm_popE ?_ | refine wbm rfl ?_)
  | refine wisi rfl ?_
  | (refine gSlc ?_; first | refine wslc_l (by walk_at "dr") ?_ | refine wslc_t (by walk_at "dr") ?_)
  | (refine gRev ?_; refine wrev (by walk_at "dr") ?_)
  | refine wstr_s ?_ | refine tr_mkf ?_ | refine tr_mkt ?_ | refine wts_nil ?_ | refine wts_cons ?_ | refine wi_seq ?_ | refine wi_rng ?_ | refine wfor_nil ?_ | ((with_reducible refine wfor_cons (s' := ?_) ?_ ?_); rotate_left 1; exact rfl) | (refine gLv ?_; refine lv_eq (by walk_at "len") ?_)
  | (refine gEnd ?_; refine wend (by walk_at "len") ?_) | (refine gEndX ?_; refine wendx (by walk_at "len") ?_)))
/-! ### texts -/
def allW : List Str := ["tied", "same", "not", "and", "or", "some", "all", "x", "y", "z"]
theorem ok_words : ∀ (q : Q), q.ok → ∀ x ∈ q.items, x ∈ allW
  | .pl w a b, ⟨hw, ha, hb⟩, x, hx => by
    simp only [plW, nmW, List.mem_cons, List.not_mem_nil, or_false, Q.items] at hw ha hb hx
    simp only [allW, List.mem_cons, List.not_mem_nil, or_false]
    rcases hx with rfl | rfl | rfl
    · rcases hw with rfl | rfl <;> simp
    · rcases ha with rfl | rfl | rfl <;> simp
    · rcases hb with rfl | rfl | rfl <;> simp
  | .nt q, ok, x, hx => by
    rcases List.mem_cons.mp hx with rfl | h
    · simp [allW]
    · exact ok_words q ok x h
  | .lk w a q, ⟨hw, ha, ok⟩, x, hx => by
    rcases List.mem_cons.mp hx with rfl | h
    · simp only [lkW, List.mem_cons, List.not_mem_nil, or_false] at hw
      rcases hw with rfl | rfl <;> simp [allW]
    · rcases List.mem_cons.mp h with rfl | h
      · simp only [nmW, List.mem_cons, List.not_mem_nil, or_false] at ha
        rcases ha with rfl | rfl | rfl <;> simp [allW]
      · exact ok_words q ok x h
  | .jn w p q, ⟨hw, okp, ok⟩, x, hx => by
    rcases List.mem_cons.mp hx with rfl | h
    · simp only [jnW, List.mem_cons, List.not_mem_nil, or_false] at hw
      rcases hw with rfl | rfl <;> simp [allW]
    · rcases List.mem_append.mp h with h | h
      · exact ok_words p okp x h
      · exact ok_words q ok x h
theorem words_len : ∀ x ∈ allW, x.length ≤ 4 := by decide +kernel
theorem words_sp : ∀ x ∈ allW, 32 ∉ TL.tl x := by decide +kernel
theorem sum_len {k : Nat} : ∀ (l : List Str), (∀ x ∈ l, x.length ≤ k) → (l.map (·.length)).sum ≤ k * l.length
  | [], _ => by simp
  | x :: l, h => by
    have := sum_len l fun y hy => h y (by simp [hy])
    have := h x (by simp)
    simp only [List.map_cons, List.sum_cons, List.length_cons, Nat.mul_add]
    omega
theorem joinL_len (S : List Nat) : ∀ ps : List (List Nat), (TL.joinL S ps).length ≤ (ps.map (·.length)).sum + ps.length * S.length
  | [] => by simp [TL.joinL]
  | [p] => by simp [TL.joinL]
  | p :: q :: r => by
    have := joinL_len S (q :: r)
    simp only [TL.joinL, List.length_append, List.map_cons, List.sum_cons, List.length_cons, Nat.add_mul, Nat.one_mul] at this ⊢
    omega
abbrev txt (l : List Str) : Str := Txt.join " " l
theorem txt_len {l : List Str} (h : ∀ x ∈ l, x ∈ allW) : (txt l).length ≤ 5 * l.length := by
  have h1 : (txt l).length = (TL.joinL (TL.tl " ") (l.map TL.tl)).length := by
    rw [TL.len_tl]; unfold txt; rw [TL.join_eq, TL.tl_join]
  have h2 := joinL_len (TL.tl " ") (l.map TL.tl)
  have h3 := sum_len l fun x hx => words_len x (h x hx)
  rw [List.map_map, List.length_map] at h2
  have e : (l.map ((fun x : List Nat => x.length) ∘ TL.tl)) = l.map (·.length) := List.map_congr_left fun x _ => (TL.len_tl x).symm
  rw [e] at h2
  have e2 : (TL.tl " ").length = 1 := rfl
  rw [e2] at h2
  omega
theorem split_txt {l : List Str} (h : ∀ x ∈ l, x ∈ allW) (hn : l ≠ []) : Txt.split (txt l) " " = l :=
  TL.split_join (s := 32) (S := []) rfl (by decide +kernel) hn fun p hp => words_sp p (h p hp)
theorem txt_inj {l k : List Str} (h : ∀ x ∈ l, x ∈ allW) (hn : l ≠ []) (h2 : ∀ x ∈ k, x ∈ allW) (hn2 : k ≠ []) (e : txt l = txt k) : l = k := by
  rw [← split_txt h hn, e, split_txt h2 hn2]
theorem join_run {m : Mu} {l : List Str} (h : ∀ x ∈ l, x ∈ allW) (hl : l.length ≤ 1000) : bmD (.str " ") .join m [.lst (dS l)] = .ok (.str (txt l)) m := by
  show joinD (.str " ") m [.lst (dS l)] = _
  unfold joinD
  simp only []
  rw [show (sq m (.lst (dS l))).bind strsOf = some l from strsOf_map l]
  show Res.when (big ((l.map (·.length)).sum + l.length * 1)) _ = _
  have := sum_len l fun x hx => words_len x (h x hx)
  unfold big
  rw [decide_eq_true (by omega)]
  rfl
theorem wbm_join {m : Mu} {l : List Str} {Q : D → Mu → Prop} {X : Px} (h : ∀ x ∈ l, x ∈ allW) (hl : l.length ≤ 1000) (q : Q (.str (txt l)) m) : WBm .join (.str " ") m [.lst (dS l)] Q X := wbm (join_run h hl) q
theorem wbm_split {m : Mu} {l : List Str} {Q : D → Mu → Prop} {X : Px} (h : ∀ x ∈ l, x ∈ allW) (hn : l ≠ []) (hl : l.length ≤ 1000) (q : Q (.lst (dS l)) m) : WBm .split (.str (txt l)) m [.str " "] Q X := by
  refine wbm (v := .lst (dS l)) (m' := m) ?_ q
  show Res.when (decide (0 < (" " : Str).length) && big (txt l).length) (Res.ok (D.lst ((Txt.split (txt l) " ").map .str)) m) = _
  rw [split_txt h hn]
  have := txt_len h
  unfold big
  rw [decide_eq_true (show (txt l).length ≤ 1000000 by omega)]
  rfl
/-! ### a question -/
def setOf (l : List Str) : List Str := sortS (dedupS l)
theorem dedup_len : ∀ l : List Str, (dedupS l).length ≤ l.length
  | [] => Nat.le_refl _
  | x :: l => by
    have h1 := dedup_len l
    have h2 := List.length_filter_le (fun y => decide (y ≠ x)) (dedupS l)
    simp only [dedupS, List.length_cons]
    omega
theorem set_run {m : Mu} {l : List Str} (hl : l.length < 64) : biD .set false m [.lst (dS l)] = .ok (.set (dS (dedupS l))) m := by
  show setD m [.lst (dS l)] = _
  unfold setD
  simp only []
  rw [show (lq m (.lst (dS l))).bind strsOf = some l from strsOf_map l]
  simp only [show l.length < 4000 by omega, decide_true, Res.when_true]
theorem sorted_run {m : Mu} {l : List Str} (hl : l.length < 64) : biD .sorted false m [.set (dS l)] = .ok (.lst (dS (sortS l))) m := by
  show sortedD m [.set (dS l)] = _
  unfold sortedD
  simp only [dr_set, strsOf_map, hl, decide_true, Res.when_true]
def QV (q : Q) : D := .ins 5 [(16, q.enc), (5, .str (txt q.items)), (19, .tup (dS (setOf q.free))), (20, .int q.looks), (21, .bl (setOf q.free).isEmpty)]
theorem toPys_strs (m : Mu) (k : Nat) : ∀ l : List Str, toPys (toPy m (k + 1)) (dS l) = some (l.map PyData.str)
  | [] => rfl
  | x :: l => by
    show (some (PyData.str x)).bind (fun p => (toPys (toPy m (k + 1)) (dS l)).map (p :: ·)) = _
    rw [toPys_strs m k l]; rfl
theorem eq_tup_nil (m : Mu) (l : List Str) : eqD m (.tup (dS l)) (.tup []) = some l.isEmpty := by
  have h1 : pyD m (.tup (dS l)) = some (.tuple (l.map PyData.str)) := by
    show (toPys (toPy m 59) (dS l)).map PyData.tuple = _
    rw [toPys_strs m 58 l]; rfl
  have h2 : pyD m (.tup []) = some (.tuple []) := rfl
  unfold eqD
  rw [h1, h2]
  cases l <;> rfl
theorem dep_len : ∀ q : Q, q.dep + 3 ≤ q.items.length
  | .pl _ _ _ => by simp [Q.dep, Q.items]
  | .nt q => by simp only [Q.dep, Q.items, List.length_cons]; have := dep_len q; omega
  | .lk _ a q => by simp only [Q.dep, Q.items, List.length_cons]; have := dep_len q; omega
  | .jn _ p q => by simp only [Q.dep, Q.items, List.length_cons, List.length_append]; have := dep_len q; have := dep_len p; omega
theorem init_w (q : Q) (ok : q.ok) (n : Nat) {m : Mu} (hm : nlM m.length m) (hl : q.items.length ≤ 40) (hn : 42 ≤ n) : run pd.P n 12 [.loc m.length, q.enc] (m ++ [some (.ins 5 [])]) = .ok .non (m ++ [some (QV q)]) := by
  obtain ⟨n, rfl⟩ : ∃ j, n = j + 1 := ⟨n - 1, by omega⟩
  have hd := dep_len q
  have hw := ok_words q ok
  have hf := free_len q
  have hf2 := dedup_len q.free
  refine wf_get (wrunK [some (.loc m.length), some q.enc, none] rfl rfl rfl ?_)
  walk_at "pv"
  refine wf_eq (items_w q n (nlM_push hm rfl) (by omega) (by omega)) ?_
  walk_at "pv"
  have hdl : (dS q.items).length = q.items.length := List.length_map ..
  walk_at "pv"
  refine wbm_join hw (by omega) ?_
  walk_at "pv"
  refine wf_eq (free_w q ok n (by omega) (by omega)) ?_
  walk_at "pv"
  refine wbi (set_run (by omega)) ?_
  walk_at "pv"
  refine wbi (sorted_run (by omega)) ?_
  walk_at "pv"
  refine wf_eq (looks_w q ok n (by omega) (by omega)) ?_
  walk_at "pv"
  refine wcmp_eqd (fun _ _ h => nomatch h) (fun _ _ h => nomatch h) (eq_tup_nil _ _) ?_
  walk_at "pv"
  walk_at "pv"
  exact ⟨rfl, rfl⟩
theorem init_x (q : Q) (n : Nat) {m : Mu} (hm : nlM m.length m) (hl : 40 < q.items.length) (hl2 : q.items.length ≤ 1000) (hn : q.dep + 2 ≤ n) {Q : D → Mu → Prop} {X : Px} (h : X 2 [(18, .int 40), (17, .str "items")] (m ++ [some (.ins 5 [])])) : WF (run pd.P n) 12 [.loc m.length, q.enc] (m ++ [some (.ins 5 [])]) Q X := by
  obtain ⟨n, rfl⟩ : ∃ j, n = j + 1 := ⟨n - 1, by omega⟩
  refine wrunK [some (.loc m.length), some q.enc, none] rfl rfl rfl ?_
  walk_at "pv"
  refine wf_eq (items_w q n (nlM_push hm rfl) (by omega) (by omega)) ?_
  have hdl : (dS q.items).length = q.items.length := List.length_map ..
  walk_at "pv"
  exact h
theorem QV_nl {b : Nat} (q : Q) : nl b (QV q) = true := by
  unfold QV
  simp [nl, nlF, enc_nl, nls_strs]
theorem new_w (q : Q) (ok : q.ok) (n : Nat) {m : Mu} (hm : nlM m.length m) (hl : q.items.length ≤ 40) (hn : 42 ≤ n) {R : D → Mu → Prop} {X : Px} (h : R (QV q) m) : WNew pd.P (run pd.P n) 5 [q.enc] [] [] m R X :=
  wnew_v rfl rfl (wfk rfl rfl (wf_eq (init_w q ok n hm hl hn) ⟨rfl, QV q, m, lay_at get_end (Nat.le_refl _) (QV_nl q), cut_app hm, h⟩))
theorem new_x (q : Q) (n : Nat) {m : Mu} (hm : nlM m.length m) (hl : 40 < q.items.length) (hl2 : q.items.length ≤ 1000) (hn : q.dep + 2 ≤ n) {R : D → Mu → Prop} {X : Px} (h : X 2 [(18, .int 40), (17, .str "items")] (m ++ [some (.ins 5 [])])) : WNew pd.P (run pd.P n) 5 [q.enc] [] [] m R X :=
  wnew_v rfl rfl (wfk rfl rfl (init_x q n hm hl hl2 hn h))
theorem scan_init (q : Q) (ok : q.ok) (n : Nat) {m : Mu} (hl : q.items.length ≤ 40) : run pd.P (n + 1) 0 [.loc m.length, .str (txt q.items)] (m ++ [some (.ins 4 [])]) = .ok .non (m ++ [some (scan q.items 0)]) := by
  have hw := ok_words q ok
  have h3 := q.len3
  refine wf_get (wrunK [some (.loc m.length), some (.str (txt q.items))] rfl rfl rfl ?_)
  walk_at "pv"
  refine wbm_split hw (fun e => by rw [e] at h3; simp at h3) (by omega) ?_
  walk_at "pv"
  exact ⟨rfl, rfl⟩
theorem scan_nl {b : Nat} (its : List Str) (a : Nat) : nl b (scan its a) = true := by
  unfold scan
  simp [nl, nlF, nls_strs]
theorem read_w (q : Q) (ok : q.ok) (n : Nat) {m : Mu} (hm : nlM m.length m) (hl : q.items.length ≤ 40) (hn : 46 ≤ n) : run pd.P n 13 [.str (txt q.items)] m = .ok (QV q) m := by
  obtain ⟨n, rfl⟩ : ∃ j, n = j + 3 := ⟨n - 3, by omega⟩
  have hd := dep_len q
  have hr := root_w q ok (n + 2) (m := m ++ [some (scan q.items 0)]) (k := m.length) (pre := []) (post := []) (b := 0)
  simp only [List.nil_append, List.append_nil, List.length_nil, Nat.zero_add] at hr
  refine wf_get (wrunK [some (.str (txt q.items)), none, none] rfl rfl rfl ?_)
  walk_at "pv"
  refine wnew_k rfl rfl (wfk rfl rfl (wf_eq (scan_init q ok (n + 1) hl) ⟨rfl, ?_⟩))
  walk_at "pv"
  refine wf_eq (hr get_end hl (Nat.le_refl _) (by omega)) ?_
  rw [setM_end]
  walk_at "pv"
  refine wf_eq (finish_w n get_end) ?_
  walk_at "pv"
  refine new_w q ok _ (nlM_push hm (scan_nl _ _)) hl (by omega) ?_
  refine wend_cut hm (lay_nl (QV_nl q)) ⟨rfl, rfl⟩ (by simp)
theorem negated_w (q : Q) (ok : q.ok) (n : Nat) {m : Mu} (hm : nlM m.length m) (hl : q.items.length < 40) (hn : 44 ≤ n) : run pd.P n 14 [QV q] m = .ok (QV (.nt q)) m := by
  obtain ⟨n, rfl⟩ : ∃ j, n = j + 1 := ⟨n - 1, by omega⟩
  refine wf_get (wrunK [some (QV q)] rfl rfl rfl ?_)
  walk_at "pv"
  refine new_w (.nt q) ok _ hm (by simp only [Q.items, List.length_cons]; omega) (by omega) ?_
  walk_at "pv"
  exact ⟨rfl, rfl⟩
theorem negated_x (q : Q) (n : Nat) {m : Mu} (hm : nlM m.length m) (hl : q.items.length = 40) (hn : 44 ≤ n) {R : D → Mu → Prop} {X : Px} (h : X 2 [(18, .int 40), (17, .str "items")] m) : WF (run pd.P n) 14 [QV q] m R X := by
  obtain ⟨n, rfl⟩ : ∃ j, n = j + 1 := ⟨n - 1, by omega⟩
  have hd := dep_len q
  refine wrunK [some (QV q)] rfl rfl rfl ?_
  walk_at "pv"
  refine new_x (.nt q) _ hm (by simp only [Q.items, List.length_cons]; omega) (by simp only [Q.items, List.length_cons]; omega) (by simp only [Q.dep]; omega) ?_
  refine wendx_cut hm rfl h (by simp)
theorem need_w (q : Q) (n : Nat) {m : Mu} {x : Str} : run pd.P (n + 1) 7 [QV q, .str x] m = .ok .non m := by
  refine wf_get (wrunK [some (QV q), some (.str x)] rfl rfl rfl ?_)
  walk_at "pv"
  exact ⟨rfl, rfl⟩
theorem both_w (p q : Q) (okp : p.ok) (ok : q.ok) (n : Nat) {m : Mu} (hm : nlM m.length m) (hl : p.items.length + q.items.length < 40) (hn : 44 ≤ n) : run pd.P n 15 [QV p, QV q] m = .ok (QV (.jn "and" p q)) m := by
  obtain ⟨n, rfl⟩ : ∃ j, n = j + 2 := ⟨n - 2, by omega⟩
  refine wf_get (wrunK [some (QV p), some (QV q)] rfl rfl rfl ?_)
  walk_at "pv"
  refine wf_eq (need_w q n) ?_
  walk_at "pv"
  refine new_w (.jn "and" p q) ⟨by simp [jnW], okp, ok⟩ _ hm (by simp only [Q.items, List.length_cons, List.length_append]; omega) (by omega) ?_
  walk_at "pv"
  exact ⟨rfl, rfl⟩
theorem either_w (p q : Q) (okp : p.ok) (ok : q.ok) (n : Nat) {m : Mu} (hm : nlM m.length m) (hl : p.items.length + q.items.length < 40) (hn : 44 ≤ n) : run pd.P n 16 [QV p, QV q] m = .ok (QV (.jn "or" p q)) m := by
  obtain ⟨n, rfl⟩ : ∃ j, n = j + 2 := ⟨n - 2, by omega⟩
  refine wf_get (wrunK [some (QV p), some (QV q)] rfl rfl rfl ?_)
  walk_at "pv"
  refine wf_eq (need_w q n) ?_
  walk_at "pv"
  refine new_w (.jn "or" p q) ⟨by simp [jnW], okp, ok⟩ _ hm (by simp only [Q.items, List.length_cons, List.length_append]; omega) (by omega) ?_
  walk_at "pv"
  exact ⟨rfl, rfl⟩
theorem joined_x (f : Nat) (w : Str) (hf : f = 15 ∧ w = "and" ∨ f = 16 ∧ w = "or") (p q : Q) (n : Nat) {m : Mu} (hm : nlM m.length m) (hp : p.items.length ≤ 40) (hq : q.items.length ≤ 40) (hl : 40 ≤ p.items.length + q.items.length) (hn : 44 ≤ n) {R : D → Mu → Prop} {X : Px} (h : X 2 [(18, .int 40), (17, .str "items")] m) : WF (run pd.P n) f [QV p, QV q] m R X := by
  obtain ⟨n, rfl⟩ : ∃ j, n = j + 2 := ⟨n - 2, by omega⟩
  have hd := dep_len q
  have hd2 := dep_len p
  rcases hf with ⟨rfl, rfl⟩ | ⟨rfl, rfl⟩
  · refine wrunK [some (QV p), some (QV q)] rfl rfl rfl ?_
    walk_at "pv"
    refine wf_eq (need_w q n) ?_
    walk_at "pv"
    refine new_x (.jn "and" p q) _ hm (by simp only [Q.items, List.length_cons, List.length_append]; omega) (by simp only [Q.items, List.length_cons, List.length_append]; omega) (by simp only [Q.dep]; omega) ?_
    refine wendx_cut hm rfl h (by simp)
  · refine wrunK [some (QV p), some (QV q)] rfl rfl rfl ?_
    walk_at "pv"
    refine wf_eq (need_w q n) ?_
    walk_at "pv"
    refine new_x (.jn "or" p q) _ hm (by simp only [Q.items, List.length_cons, List.length_append]; omega) (by simp only [Q.items, List.length_cons, List.length_append]; omega) (by simp only [Q.dep]; omega) ?_
    refine wendx_cut hm rfl h (by simp)
end Lw

set_option linter.all false
set_option autoImplicit false
set_option maxRecDepth 100000
set_option maxHeartbeats 4000000
set_option Elab.async false
namespace Lw
open PySem Pv
local macro_rules | `(tactic| walk_at "dr") => `(tactic| first | exact dr_loc _ (by assumption) | ((with_reducible refine dr_end' ?_); exact rfl) | exact dr_loc _ (get_setM (by assumption)) | exact rfl)
local macro_rules | `(tactic| walk_at "get") => `(tactic| first | assumption | ((with_reducible refine get_end' ?_); exact rfl) | exact get_setM (by assumption) | exact rfl)
local macro_rules | `(tactic| walk_at "bmt") => `(tactic| first | exact rfl | ((with_reducible rw [dr_end]); exact rfl) | (rw [dr_loc _ (by walk_at "get")]; exact rfl))
local macro_rules | `(tactic| walk_at "len") => `(tactic| first | exact rfl | exact len_setM | (simp only [List.length_append, List.length_cons, List.length_nil, len_setM]; done))
local macro_rules | `(tactic| walk_at "pv") => `(tactic| repeat (first
  | (refine gE ?_; first | refine we_var rfl ?_ | refine we_int ?_ | refine we_str ?_ | refine we_cmp ?_ | refine we_bin ?_ | refine we_fld ?_ | refine we_ix ?_ | refine we_meth ?_ | refine we_call ?_ | refine we_not ?_ | refine we_and ?_ | refine we_or ?_ | refine we_glo rfl ?_ | refine we_bi ?_ | refine we_bm ?_ | refine we_tup rfl ?_ | refine we_lst rfl ?_ | refine we_lstk rfl ?_ | refine we_isi ?_ | refine we_ite ?_ | refine we_non ?_ | refine we_bl ?_ | refine we_strI ?_ | refine we_dic0 ?_ | refine we_slc ?_ | refine we_neg ?_ | refine we_new ?_ | refine we_rev ?_)
  | (refine gL ?_; first | refine wl_cons ?_ | refine wl_nil ?_)
  | (refine gSs ?_; first | refine wss_cons ?_ | refine wss_nil ?_)
  | (refine gS ?_; first | refine ws_asg ?_ | refine ws_ret ?_ | refine ws_ite ?_ | refine ws_ex ?_ | refine ws_retn ?_ | refine ws_pass ?_ | refine ws_forW ?_ | refine ws_asgf ?_ | refine ws_asgs ?_ | refine ws_par ?_ | refine ws_asgt ?_ | refine ws_raise ?_ | refine ws_try ?_)
  | (refine gIf ?_; first | refine wif_t ?_ | refine wif_f ?_ | refine wif_not ?_ | (with_reducible refine wif_eqt (decide_eq_true rfl) ?_) | refine wif_eqt (decide_eq_true (by omega)) ?_ | refine wif_eqf (decide_eq_false (by omega)) ?_)
  | (refine gT ?_; first | refine wt_bl ?_ | refine wt_int ?_)
  | (refine gC ?_; first | refine wcmp_eqi ?_ | refine wcmp_eqs ?_ | refine wcmp_lt ?_ | refine wcmp_le ?_ | refine wcmp_gt ?_ | refine wcmp_ge ?_ | refine wcmp_nei ?_ | refine wcmp_eqb ?_ | refine wcmp_neb ?_ | refine wcmp_nes ?_ | refine wcmp_in rfl ?_ | refine wcmp_notin rfl ?_ | refine wcmp_isn ?_ | refine wcmp_isnotn ?_)
  | (refine gO2 ?_; first | refine wo_add ?_ | refine wo_sub ?_ | refine wo_addb ?_ | refine wo_addl (by simp only [List.length_append, List.length_cons, List.length_nil, List.length_map]; omega) ?_)
  | (refine gO ?_; first | refine wo_none ?_ | refine wo_some ?_)
  | refine wfk rfl rfl ?_
  | (refine gMeth ?_; refine wmeth (by walk_at "dr") rfl rfl rfl ?_)
  | (refine gFld ?_; first | refine wfld (by walk_at "dr") rfl rfl ?_ | refine wfld_x (by walk_at "dr") rfl rfl ?_)
  | (refine gIx ?_; first | refine wix_t (by walk_at "dr") rfl ?_ | refine wix_l (by walk_at "dr") rfl ?_)
  | (refine gBi ?_; first | (refine wbi_repri ?_ ?_ ?_; (· omega); (· omega)) | refine wbi_reprb ?_ | refine wbi rfl ?_ | refine wbi_lenl (by walk_at "dr") ?_)
  | refine wand_bl ?_ | refine wor_bl ?_ | refine isI ?_ | refine isS ?_ | refine isB ?_
  | refine wasgt rfl ?_ | refine wpar rfl ?_ | refine wraise rfl ?_ | refine witm rfl ?_ | refine wrng rfl ?_
  | (refine gAsgF ?_; first | ((with_reducible refine wasgfE ?_ ?_); (· exact rfl)) | refine wasgf (by walk_at "get") rfl ?_) | (refine gAsgS ?_; refine wasgs (by walk_at "get") rfl ?_)
  | (refine gBmT ?_; refine wbmt (by walk_at "bmt") ?_)
  | (refine gBm ?_; first | ((with_reducible refine wbm_appE ?_ ?_); (· first | omega | (simp; done) | (simp; omega))) | ((with_reducible refine wbm_extE ?_ ?_); (· first | omega | (simp; done) | (simp; omega))) | with_reducible refine wbm_popE ?_ | refine wbm rfl ?_)
  | refine wisi rfl ?_
  | (refine gSlc ?_; first | refine wslc_l (by walk_at "dr") ?_ | refine wslc_t (by walk_at "dr") ?_)
  | (refine gRev ?_; refine wrev (by walk_at "dr") ?_)
  | refine wstr_s ?_ | refine tr_mkf ?_ | refine tr_mkt ?_ | refine wts_nil ?_ | refine wts_cons ?_ | refine wi_seq ?_ | refine wi_rng ?_ | refine wfor_nil ?_ | ((with_reducible refine wfor_cons (s' := ?_) ?_ ?_); rotate_left 1; exact rfl) | (refine gLv ?_; refine lv_eq (by walk_at "len") ?_)
  | (refine gEnd ?_; refine wend (by walk_at "len") ?_) | (refine gEndX ?_; refine wendx (by walk_at "len") ?_)))
/-! ### the law's own walk -/
def forB : S → List S
  | .for_ _ _ b => b
  | _ => []
def TB : List S := forB (d25.body.getD 1 .pass)
def Ent (q : Q) : D := .lst [.lst (dS q.free), .int q.looks]
section
variable {call : Cal} {m : Mu} {St rest : List D} {x0 x2 x3 x4 x5 x6 x7 : Option D} {N : Sl → Mu → Prop} {R : D → Mu → Prop} {B C : Sl → Mu → Prop} {X : Ps}
abbrev WL25 (call : Cal) (rest : List D) (m : Mu) (St : List D) (x0 x2 x3 x4 x5 x6 x7 : Option D) (N : Sl → Mu → Prop) (R : D → Mu → Prop) (B C : Sl → Mu → Prop) (X : Ps) : Prop :=
  WFor pd.P call (m.length + 1) (.v 2) TB rest [x0, some (.loc m.length), x2, x3, x4, x5, x6, x7] (m ++ [some (.lst St)]) N R B C X
theorem told_name {x : Str} (hx : x ∈ nmW) (hl : St.length ≤ 1000) (q : WL25 call rest m (St ++ [.str x]) x0 (some (.str x)) x3 x4 x5 x6 x7 N R B C X) : WL25 call (.str x :: rest) m St x0 x2 x3 x4 x5 x6 x7 N R B C X := by
  simp only [nmW, List.mem_cons, List.not_mem_nil, or_false] at hx
  rcases hx with rfl | rfl | rfl
  all_goals (
    refine wfor_cons rfl ?_
    unfold TB forB d25
    walk_at "pv"
    exact q)
theorem told_not (q : WL25 call rest m St x0 (some (.str "not")) x3 x4 x5 x6 x7 N R B C X) : WL25 call (.str "not" :: rest) m St x0 x2 x3 x4 x5 x6 x7 N R B C X := by
  refine wfor_cons rfl ?_
  unfold TB forB d25
  walk_at "pv"
  exact q
theorem told_plain {w a b : Str} (hx : w ∈ plW) (hl : St.length ≤ 1000) (q : WL25 call rest m (St ++ [Ent (.pl w a b)]) x0 (some (.str w)) (some (.str a)) (some (.str b)) x5 x6 x7 N R B C X) : WL25 call (.str w :: rest) m (St ++ [.str b] ++ [.str a]) x0 x2 x3 x4 x5 x6 x7 N R B C X := by
  simp only [plW, List.mem_cons, List.not_mem_nil, or_false] at hx
  rcases hx with rfl | rfl
  all_goals (
    refine wfor_cons rfl ?_
    unfold TB forB d25
    walk_at "pv"
    exact q)
theorem told_join {w : Str} {p r : Q} (hx : w ∈ jnW) (hl : St.length ≤ 1000) (hp : p.free.length ≤ 1000) (hr : r.free.length ≤ 1000) (q : WL25 call rest m (St ++ [Ent (.jn w p r)]) x0 (some (.str w)) (some (Ent p)) (some (Ent r)) x5 x6 x7 N R B C X) : WL25 call (.str w :: rest) m (St ++ [Ent r] ++ [Ent p]) x0 x2 x3 x4 x5 x6 x7 N R B C X := by
  have e : ∀ w, Ent (.jn w p r) = .lst [.lst (dS p.free ++ dS r.free), .int (if (r.looks : Int) > p.looks then r.looks else p.looks)] := fun w => by
    unfold Ent
    simp only [Q.free, Q.looks, List.map_append]
    congr 3
    show D.int _ = D.int _
    congr 1
    split <;> omega
  simp only [jnW, List.mem_cons, List.not_mem_nil, or_false] at hx
  rcases hx with rfl | rfl
  all_goals (
    rw [e] at q
    refine wfor_cons rfl ?_
    unfold TB forB d25
    walk_at "pv"
    exact q)
theorem told_look {w a : Str} {r : Q} (hx : w ∈ lkW) (hl : St.length ≤ 1000) (hr : r.free.length ≤ 1000) (q : WL25 call rest m (St ++ [Ent (.lk w a r)]) x0 (some (.str w)) x3 x4 (some (.str a)) (some (Ent r)) x7 N R B C X) : WL25 call (.str w :: rest) m (St ++ [Ent r] ++ [.str a]) x0 x2 x3 x4 x5 x6 x7 N R B C X := by
  simp only [lkW, List.mem_cons, List.not_mem_nil, or_false] at hx
  rcases hx with rfl | rfl
  all_goals (
    refine wfor_cons rfl ?_
    unfold TB forB d25
    walk_at "pv"
    refine we_comp (notN a) ?_
    walk_at "pv"
    refine ⟨?_, ?_, ?_⟩
    · rw [fm_notN]
      have := List.length_filter_le (fun x => decide (x ≠ a)) r.free
      rw [List.length_map]; omega
    · intro d hd
      obtain ⟨x, hx, rfl⟩ := List.mem_map.mp hd
      refine wone rfl ?_
      walk_at "pv"
      refine wif_dec (fun h => ?_) (fun h => ?_)
      · walk_at "pv"
        exact ⟨by simp [notN, h], rfl⟩
      · walk_at "pv"
        exact ⟨by simp [notN, h], rfl⟩
    · rw [fm_notN]
      walk_at "pv"
      have e : ∀ w, Ent (.lk w a r) = .lst [.lst (dS (r.free.filter fun x => decide (x ≠ a))), .int (1 + r.looks)] := fun w => by
        unfold Ent
        simp only [Q.free, Q.looks]
        congr 3
        show D.int _ = D.int _
        congr 1
        omega
      rw [e] at q
      exact q)
theorem told_loop : ∀ (q : Q), q.ok → ∀ {rest St : List D} {x2 x3 x4 x5 x6 x7 : Option D}, St.length + q.items.length ≤ 1000 → (∀ y2 y3 y4 y5 y6, WL25 call rest m (St ++ [Ent q]) x0 y2 y3 y4 y5 y6 x7 N R B C X) →
    WL25 call (dS q.items.reverse ++ rest) m St x0 x2 x3 x4 x5 x6 x7 N R B C X
  | .pl w a b, ⟨hw, ha, hb⟩, rest, St, x2, x3, x4, x5, x6, x7, hl, h => by
    simp only [Q.items, List.length_cons, List.length_nil] at hl
    refine told_name hb (by omega) (told_name ha (by simp; omega) (told_plain hw (by omega) (h _ _ _ _ _)))
  | .nt q, ok, rest, St, x2, x3, x4, x5, x6, x7, hl, h => by
    simp only [Q.items, List.length_cons] at hl
    simp only [Q.items, List.reverse_cons, List.map_append, List.append_assoc]
    refine told_loop q ok (by omega) fun y2 y3 y4 y5 y6 => ?_
    exact told_not (h _ _ _ _ _)
  | .lk w a q, ⟨hw, ha, ok⟩, rest, St, x2, x3, x4, x5, x6, x7, hl, h => by
    simp only [Q.items, List.length_cons] at hl
    have hf := free_len q
    simp only [Q.items, List.reverse_cons, List.map_append, List.append_assoc]
    refine told_loop q ok (by omega) fun y2 y3 y4 y5 y6 => ?_
    exact told_name ha (by simp; omega) (told_look hw (by omega) (by omega) (h _ _ _ _ _))
  | .jn w p q, ⟨hw, okp, ok⟩, rest, St, x2, x3, x4, x5, x6, x7, hl, h => by
    simp only [Q.items, List.length_cons, List.length_append] at hl
    have hf := free_len q
    have hf2 := free_len p
    simp only [Q.items, List.reverse_cons, List.reverse_append, List.map_append, List.append_assoc]
    refine told_loop q ok (by omega) fun y2 y3 y4 y5 y6 => ?_
    refine told_loop p okp (by simp; omega) fun y2 y3 y4 y5 y6 => ?_
    exact told_join hw (by omega) (by omega) (by omega) (h _ _ _ _ _)
end
/-- what the law's own walk tells -/
def TV (q : Q) : D := .tup [.tup (dS (setOf q.free)), .int q.looks]
theorem told_w (q : Q) (ok : q.ok) (n : Nat) {m : Mu} (hm : nlM m.length m) (hl : q.items.length ≤ 60) : run pd.P (n + 1) 25 [.lst (dS q.items)] m = .ok (TV q) m := by
  have hf := free_len q
  have hf2 := dedup_len q.free
  refine wf_get (wrunK [some (.lst (dS q.items)), none, none, none, none, none, none, none] rfl rfl rfl ?_)
  walk_at "pv"
  rw [← List.map_reverse, ← List.append_nil (List.map D.str q.items.reverse), show (m ++ [some (D.lst [])]).length = m.length + 1 from by simp]
  refine told_loop (x0 := some (.lst (dS q.items))) (St := []) q ok (by simp; omega) fun y2 y3 y4 y5 y6 => ?_
  refine wfor_nil ?_
  walk_at "pv"
  refine wbi (set_run (by omega)) ?_
  walk_at "pv"
  refine wbi (sorted_run (by omega)) ?_
  walk_at "pv"
  refine wend_cut hm (w := TV q) (lay_nl ?_) ?_ (by simp)
  · simp [nl, nls, nls_strs]
  · exact ⟨rfl, rfl⟩
/-! ### what is told -/
theorem looks_len : ∀ q : Q, q.looks ≤ q.items.length
  | .pl _ _ _ => by simp [Q.looks, Q.items]
  | .nt q => by simp only [Q.looks, Q.items, List.length_cons]; have := looks_len q; omega
  | .lk _ a q => by simp only [Q.looks, Q.items, List.length_cons]; have := looks_len q; omega
  | .jn _ p q => by simp only [Q.looks, Q.items, List.length_cons, List.length_append]; have := looks_len q; have := looks_len p; omega
theorem str_w (q : Q) (n : Nat) {m : Mu} : run pd.P (n + 1) 18 [QV q] m = .ok (.str (txt q.items)) m := by
  refine wf_get (wrunK [some (QV q)] rfl rfl rfl ?_)
  walk_at "pv"
  exact ⟨rfl, rfl⟩
theorem istold_w (q : Q) (ok : q.ok) (n : Nat) {m : Mu} (hm : nlM m.length m) (hl : q.items.length ≤ 60) : run pd.P (n + 2) 26 [QV q, .lst (dS q.items)] m = .ok (.bl true) m := by
  have hk := looks_len q
  refine wf_get (wrunK [some (QV q), some (.lst (dS q.items)), none, none] rfl rfl rfl ?_)
  walk_at "pv"
  refine wf_eq (told_w q ok n hm hl) ?_
  walk_at "pv"
  refine wstr_v rfl rfl (wf_eq (str_w q n) ?_)
  walk_at "pv"
  refine wbm_join (ok_words q ok) (by omega) ?_
  walk_at "pv"
  refine wcmp_ned (fun _ _ h => nomatch h) (fun _ _ h => nomatch h) (eq_strs _ _ _) ?_
  walk_at "pv"
  refine wcmp_eqd (fun _ _ h => nomatch h) (fun _ _ h => nomatch h) (eq_tup_nil _ _) ?_
  walk_at "pv"
  refine ⟨?_, rfl⟩
  simp
theorem eq_w (p q : Q) (okp : p.ok) (ok : q.ok) (n : Nat) {m : Mu} : run pd.P (n + 1) 17 [QV p, QV q] m = .ok (.bl (decide (p.items = q.items))) m := by
  refine wf_get (wrunK [some (QV p), some (QV q)] rfl rfl rfl ?_)
  walk_at "pv"
  refine ⟨?_, rfl⟩
  have h3 := p.len3
  have h4 := q.len3
  congr 1
  rw [decide_eq_decide]
  exact ⟨fun e => txt_inj (ok_words p okp) (fun e => by rw [e] at h3; simp at h3) (ok_words q ok) (fun e => by rw [e] at h4; simp at h4) e, fun e => by rw [e]⟩
/-- what stands for none -/
def Odd (d : D) : Prop := isAny pd.P (dr [] d) [.cls 5] = some false ∧ (∀ m, dr m d = d) ∧ eqOk 5 d = true ∧ nl 0 d = true
theorem eq_odd (p : Q) (d : D) (h : Odd d) (n : Nat) {m : Mu} : run pd.P (n + 1) 17 [QV p, d] m = .ok (.bl false) m := by
  refine wf_get (wrunK [some (QV p), some d] rfl rfl rfl ?_)
  walk_at "pv"
  refine wisi (b := false) (by rw [h.2.1, ← h.2.1 []]; exact h.1) ?_
  walk_at "pv"
  exact ⟨rfl, rfl⟩
def tooM : D := .tup [.str "TooMany", .str "items", .int 40, .bl true]
def badQ : D := .tup [.str "BadQuestion", .str "other", .bl true]
theorem joined_not (q : Q) (ok : q.ok) (o : D) (n : Nat) {m : Mu} (hm : nlM m.length m) (hl : q.items.length ≤ 40) (hn : 46 ≤ n) : run pd.P n 27 [QV q, .str "not", o] m = .ok (if q.items.length < 40 then QV (.nt q) else tooM) m := by
  obtain ⟨n, rfl⟩ : ∃ j, n = j + 1 := ⟨n - 1, by omega⟩
  refine wf_get (wrunK [some (QV q), some (.str "not"), some o, none, none] rfl rfl rfl ?_)
  walk_at "pv"
  by_cases h : q.items.length < 40
  · rw [if_pos h]
    refine wf_eq (negated_w q ok n hm h (by omega)) ?_
    walk_at "pv"
    exact ⟨rfl, rfl⟩
  · rw [if_neg h]
    refine negated_x q n hm (by omega) (by omega) ?_
    walk_at "pv"
    refine wh_as rfl rfl ?_
    walk_at "pv"
    exact ⟨rfl, rfl⟩
theorem joined_and (p q : Q) (okp : p.ok) (ok : q.ok) (n : Nat) {m : Mu} (hm : nlM m.length m) (hp : p.items.length ≤ 40) (hl : q.items.length ≤ 40) (hn : 46 ≤ n) : run pd.P n 27 [QV p, .str "and", QV q] m = .ok (if p.items.length + q.items.length < 40 then QV (.jn "and" p q) else tooM) m := by
  obtain ⟨n, rfl⟩ : ∃ j, n = j + 1 := ⟨n - 1, by omega⟩
  refine wf_get (wrunK [some (QV p), some (.str "and"), some (QV q), none, none] rfl rfl rfl ?_)
  walk_at "pv"
  by_cases h : p.items.length + q.items.length < 40
  · rw [if_pos h]
    refine wf_eq (both_w p q okp ok n hm h (by omega)) ?_
    walk_at "pv"
    exact ⟨rfl, rfl⟩
  · rw [if_neg h]
    refine joined_x 15 "and" (.inl ⟨rfl, rfl⟩) p q n hm hp hl (by omega) (by omega) ?_
    walk_at "pv"
    refine wh_as rfl rfl ?_
    walk_at "pv"
    exact ⟨rfl, rfl⟩
theorem joined_or (p q : Q) (okp : p.ok) (ok : q.ok) (n : Nat) {m : Mu} (hm : nlM m.length m) (hp : p.items.length ≤ 40) (hl : q.items.length ≤ 40) (hn : 46 ≤ n) : run pd.P n 27 [QV p, .str "or", QV q] m = .ok (if p.items.length + q.items.length < 40 then QV (.jn "or" p q) else tooM) m := by
  obtain ⟨n, rfl⟩ : ∃ j, n = j + 1 := ⟨n - 1, by omega⟩
  refine wf_get (wrunK [some (QV p), some (.str "or"), some (QV q), none, none] rfl rfl rfl ?_)
  walk_at "pv"
  by_cases h : p.items.length + q.items.length < 40
  · rw [if_pos h]
    refine wf_eq (either_w p q okp ok n hm h (by omega)) ?_
    walk_at "pv"
    exact ⟨rfl, rfl⟩
  · rw [if_neg h]
    refine joined_x 16 "or" (.inr ⟨rfl, rfl⟩) p q n hm hp hl (by omega) (by omega) ?_
    walk_at "pv"
    refine wh_as rfl rfl ?_
    walk_at "pv"
    exact ⟨rfl, rfl⟩
theorem need_x (d : D) (hd : Odd d) (n : Nat) {m : Mu} {R : D → Mu → Prop} {X : Px} (h : X 1 [(11, .str "other")] m) : WF (run pd.P (n + 1)) 7 [d, .str "other"] m R X := by
  refine wrunK [some d, some (.str "other")] rfl rfl rfl ?_
  walk_at "pv"
  refine wisi (b := false) (by rw [hd.2.1, ← hd.2.1 []]; exact hd.1) ?_
  walk_at "pv"
  exact h
theorem joined_odd (q : Q) (d : D) (hd : Odd d) (w : Str) (hw : w ∈ jnW) (n : Nat) {m : Mu} : run pd.P (n + 3) 27 [QV q, .str w, d] m = .ok badQ m := by
  refine wf_get ?_
  simp only [jnW, List.mem_cons, List.not_mem_nil, or_false] at hw
  rcases hw with rfl | rfl
  all_goals (
    refine wrunK [some (QV q), some (.str _), some d, none, none] rfl rfl rfl ?_
    walk_at "pv"
    refine wrunK [some (QV q), some d] rfl rfl rfl ?_
    walk_at "pv"
    refine need_x d hd n ?_
    walk_at "pv"
    refine wh_no rfl rfl ?_
    refine wh_as rfl rfl ?_
    walk_at "pv"
    exact ⟨rfl, rfl⟩)
end Lw

set_option linter.all false
set_option autoImplicit false
set_option maxRecDepth 100000
set_option maxHeartbeats 4000000
set_option Elab.async false
namespace Lw
open PySem Pv
local macro_rules | `(tactic| walk_at "dr") => `(tactic| first | exact dr_loc _ (by assumption) | ((with_reducible refine dr_end' ?_); exact rfl) | exact dr_loc _ (get_setM (by assumption)) | exact rfl)
local macro_rules | `(tactic| walk_at "get") => `(tactic| first | assumption | ((with_reducible refine get_end' ?_); exact rfl) | exact get_setM (by assumption) | exact rfl)
local macro_rules | `(tactic| walk_at "bmt") => `(tactic| first | exact rfl | ((with_reducible rw [dr_end]); exact rfl) | (rw [dr_loc _ (by walk_at "get")]; exact rfl))
local macro_rules | `(tactic| walk_at "len") => `(tactic| first | exact rfl | exact len_setM | (simp only [List.length_append, List.length_cons, List.length_nil, len_setM]; done))
local macro_rules | `(tactic| walk_at "pv") => `(tactic| repeat (first
  | (refine gE ?_; first | refine we_var rfl ?_ | refine we_int ?_ | refine we_str ?_ | refine we_cmp ?_ | refine we_bin ?_ | refine we_fld ?_ | refine we_ix ?_ | refine we_meth ?_ | refine we_call ?_ | refine we_not ?_ | refine we_and ?_ | refine we_or ?_ | refine we_glo rfl ?_ | refine we_bi ?_ | refine we_bm ?_ | refine we_tup rfl ?_ | refine we_lst rfl ?_ | refine we_lstk rfl ?_ | refine we_isi ?_ | refine we_ite ?_ | refine we_non ?_ | refine we_bl ?_ | refine we_strI ?_ | refine we_dic0 ?_ | refine we_slc ?_ | refine we_neg ?_ | refine we_new ?_ | refine we_rev ?_)
  | (refine gL ?_; first | refine wl_cons ?_ | refine wl_nil ?_)
  | (refine gSs ?_; first | refine wss_cons ?_ | refine wss_nil ?_)
  | (refine gS ?_; first | refine ws_asg ?_ | refine ws_ret ?_ | refine ws_ite ?_ | refine ws_ex ?_ | refine ws_retn ?_ | refine ws_pass ?_ | refine ws_forW ?_ | refine ws_asgf ?_ | refine ws_asgs ?_ | refine ws_par ?_ | refine ws_asgt ?_ | refine ws_raise ?_ | refine ws_try ?_)
  | (refine gIf ?_; first | refine wif_t ?_ | refine wif_f ?_ | refine wif_not ?_ | (with_reducible refine wif_eqt (decide_eq_true rfl) ?_) | refine wif_eqt (decide_eq_true (by omega)) ?_ | refine wif_eqf (decide_eq_false (by omega)) ?_)
  | (refine gT ?_; first | refine wt_bl ?_ | refine wt_int ?_)
  | (refine gC ?_; first | refine wcmp_eqi ?_ | refine wcmp_eqs ?_ | refine wcmp_lt ?_ | refine wcmp_le ?_ | refine wcmp_gt ?_ | refine wcmp_ge ?_ | refine wcmp_nei ?_ | refine wcmp_eqb ?_ | refine wcmp_neb ?_ | refine wcmp_nes ?_ | refine wcmp_in rfl ?_ | refine wcmp_notin rfl ?_ | refine wcmp_isn ?_ | refine wcmp_isnotn ?_)
  | (refine gO2 ?_; first | refine wo_add ?_ | refine wo_sub ?_ | refine wo_addb ?_ | refine wo_addl (by simp only [List.length_append, List.length_cons, List.length_nil, List.length_map]; omega) ?_)
  | (refine gO ?_; first | refine wo_none ?_ | refine wo_some ?_)
  | refine wfk rfl rfl ?_
  | (refine gMeth ?_; refine wmeth (by walk_at "dr") rfl rfl rfl ?_)
  | (refine gFld ?_; first | refine wfld (by walk_at "dr") rfl rfl ?_ | refine wfld_x (by walk_at "dr") rfl rfl ?_)
  | (refine gIx ?_; first | refine wix_t (by walk_at "dr") rfl ?_ | refine wix_l (by walk_at "dr") rfl ?_)
  | (refine gBi ?_; first | (refine wbi_repri ?_ ?_ ?_; (· omega); (· omega)) | refine wbi_reprb ?_ | refine wbi rfl ?_ | refine wbi_lenl (by walk_at "dr") ?_)
  | refine wand_bl ?_ | refine wor_bl ?_ | refine isI ?_ | refine isS ?_ | refine isB ?_
  | refine wasgt rfl ?_ | refine wpar rfl ?_ | refine wraise rfl ?_ | refine witm rfl ?_ | refine wrng rfl ?_
  | (refine gAsgF ?_; first | ((with_reducible refine wasgfE ?_ ?_); (· exact rfl)) | refine wasgf (by walk_at "get") rfl ?_) | (refine gAsgS ?_; refine wasgs (by walk_at "get") rfl ?_)
  | (refine gBmT ?_; refine wbmt (by walk_at "bmt") ?_)
  | (refine gBm ?_; first | ((with_reducible refine wbm_appE ?_ ?_); (· first | omega | (simp; done) | (simp; omega))) | ((with_reducible refine wbm_extE ?_ ?_); (· first | omega | (simp; done) | (simp; omega))) | with_reducible refine wbm_popE ?_ | refine wbm rfl ?_)
  | refine wisi rfl ?_
  | (refine gSlc ?_; first | refine wslc_l (by walk_at "dr") ?_ | refine wslc_t (by walk_at "dr") ?_)
  | (refine gRev ?_; refine wrev (by walk_at "dr") ?_)
  | refine wstr_s ?_ | refine tr_mkf ?_ | refine tr_mkt ?_ | refine wts_nil ?_ | refine wts_cons ?_ | refine wi_seq ?_ | refine wi_rng ?_ | refine wfor_nil ?_ | ((with_reducible refine wfor_cons (s' := ?_) ?_ ?_); rotate_left 1; exact rfl) | (refine gLv ?_; refine lv_eq (by walk_at "len") ?_)
  | (refine gEnd ?_; refine wend (by walk_at "len") ?_) | (refine gEndX ?_; refine wendx (by walk_at "len") ?_)))
/-! ### draws -/
abbrev PM (cs : List Int) (a r : Int) : Mu := [some (pen cs a r)]
theorem pen_nl {cs : List Int} {a r : Int} : nlM 1 (PM cs a r) := fun d hd => by
  have e : d = pen cs a r := by simpa using hd
  subst e
  unfold pen
  have : nls 1 (cs.map D.int) = true := nls_all fun x hx => by obtain ⟨y, _, rfl⟩ := List.mem_map.mp hx; rfl
  simp [nl, nls, this]
section
variable {cs : List Int} {a r : Int} {n : Nat} {Q : D → Mu → Prop} {X : Px}
theorem draw_w {many : Int} (h1 : 0 ≤ a) (h2 : a ≤ 2 ^ 20) (h3 : 0 < many) (h4 : many < 2 ^ 64) (q : ∀ k a' r', 0 ≤ k → k < many → a ≤ a' → a' ≤ a + 1 → Q (.int k) (PM cs a' r')) : WF (run pd.P (n + 1)) 20 [.loc 0, .int many] (PM cs a r) Q X := by
  obtain ⟨d1, d2, d3, d4⟩ := draw_nn (cs := cs) (at_ := a) (rest := r) h3
  exact wf_eq (draw_run n [] cs a r many h1 h2 h3 h4) (q _ _ _ d1 d2 d3 d4)
theorem one_w {xs : List D} (h1 : 0 ≤ a) (h2 : a ≤ 2 ^ 20) (h3 : 0 < xs.length) (h4 : xs.length < 1000) (q : ∀ v ∈ xs, ∀ a' r', a ≤ a' → a' ≤ a + 1 → Q v (PM cs a' r')) : WF (run pd.P (n + 2)) 21 [.loc 0, .lst xs] (PM cs a r) Q X := by
  obtain ⟨v, a', r', hv, d1, d2, e⟩ := one_of n [] cs a r xs h1 h2 h3 h4
  exact wf_eq e (q v hv _ _ d1 d2)
theorem letter_w (h1 : 0 ≤ a) (h2 : a ≤ 2 ^ 20) (q : ∀ x ∈ nmW, ∀ a' r', a ≤ a' → a' ≤ a + 1 → Q (.str x) (PM cs a' r')) : WF (run pd.P (n + 3)) 22 [.loc 0] (PM cs a r) Q X := by
  refine wrunK [some (.loc 0)] rfl rfl rfl ?_
  walk_at "pv"
  refine one_w (xs := dS nmW) h1 h2 (by decide) (by decide) fun v hv a' r' d1 d2 => ?_
  obtain ⟨x, hx, rfl⟩ := List.mem_map.mp hv
  walk_at "pv"
  exact q x hx a' r' d1 d2
end
def goodW (room : Nat) (w : Str) : Prop := w ∈ plW ∨ (w = "not" ∧ 3 < room) ∨ (w ∈ lkW ∧ 4 < room) ∨ (w ∈ jnW ∧ 6 < room)
def Jit (k : Nat) (cs : List Int) (a r : Int) (room : Nat) (looks : Int) (s : Sl) (m : Mu) : Prop := m = PM cs a r ∧ ∃ xs : List Str, s = [some (.loc 0), some (.int room), some (.int looks), some (.lst (dS xs)), none, none] ∧ (∀ w ∈ xs, goodW room w) ∧ 0 < xs.length ∧ xs.length ≤ k
theorem itemsL_w (cs : List Int) : ∀ room : Nat, 3 ≤ room → room ≤ 40 → ∀ (looks : Int) (n : Nat) (a r : Int), room + 3 ≤ n → 0 ≤ a → a + 2 * room ≤ 2 ^ 20 → ∀ {K : D → Mu → Prop} {X : Px},
    (∀ (q : Q) (a' r' : Int), q.ok → q.items.length ≤ room → a ≤ a' → a' ≤ a + 2 * q.items.length → K (.lst (dS q.items)) (PM cs a' r')) → WF (run pd.P n) 23 [.loc 0, .int room, .int looks] (PM cs a r) K X := by
  intro room
  induction room using Nat.strongRecOn with
  | _ room ih =>
    intro h3 h40 looks n a r hn h0 ha K X q
    obtain ⟨n, rfl⟩ : ∃ j, n = j + 4 := ⟨n - 4, by omega⟩
    refine wrunK [some (.loc 0), some (.int room), some (.int looks), none, none, none] rfl rfl rfl ?_
    walk_at "pv"
    refine wif_cut (Jit 3 cs a r room looks) (fun h => ?_) (fun h => ?_) ?_
    · have h := of_decide_eq_true h
      walk_at "pv"
      refine ⟨rfl, ["tied", "same", "not"], rfl, ?_, by decide, by decide⟩
      intro w hw
      simp only [List.mem_cons, List.not_mem_nil, or_false] at hw
      rcases hw with rfl | rfl | rfl
      · exact .inl (by decide)
      · exact .inl (by decide)
      · exact .inr (.inl ⟨rfl, by omega⟩)
    · walk_at "pv"
      refine ⟨rfl, ["tied", "same"], rfl, ?_, by decide, by decide⟩
      intro w hw
      exact .inl hw
    rintro s m ⟨rfl, xs, rfl, hx, hx0, hx1⟩
    refine wss_cons (ws_ite ?_)
    refine we_andp (x := decide (4 < room)) (y := decide (0 < looks)) ?_ ?_ ?_
    · walk_at "pv"
      refine ⟨?_, rfl⟩
      congr 1
      rw [decide_eq_decide]
      omega
    · walk_at "pv"
      exact ⟨rfl, rfl⟩
    refine wt_bl ?_
    refine wif_cut (Jit 7 cs a r room looks) (fun h => ?_) (fun h => ?_) ?_
    · rw [Bool.and_eq_true] at h
      have h := of_decide_eq_true h.1
      walk_at "pv"
      refine ⟨rfl, xs ++ (["some", "all", "all", "some"] : List Str), by simp only [dS, List.map_append]; rfl, ?_, by simp, by simp; omega⟩
      intro w hw
      rcases List.mem_append.mp hw with hw | hw
      · exact hx w hw
      · refine .inr (.inr (.inl ⟨?_, h⟩))
        simp only [List.mem_cons, List.not_mem_nil, or_false] at hw
        rcases hw with rfl | rfl | rfl | rfl <;> decide
    · walk_at "pv"
      exact ⟨rfl, xs, rfl, hx, hx0, by omega⟩
    clear hx hx0 hx1
    rintro s m ⟨rfl, xs, rfl, hx, hx0, hx1⟩
    walk_at "pv"
    refine wif_cut (Jit 11 cs a r room looks) (fun h => ?_) (fun h => ?_) ?_
    · have h := of_decide_eq_true h
      walk_at "pv"
      refine ⟨rfl, xs ++ (["and", "or", "or", "and"] : List Str), by simp only [dS, List.map_append]; rfl, ?_, by simp, by simp; omega⟩
      intro w hw
      rcases List.mem_append.mp hw with hw | hw
      · exact hx w hw
      · refine .inr (.inr (.inr ⟨?_, by omega⟩))
        simp only [List.mem_cons, List.not_mem_nil, or_false] at hw
        rcases hw with rfl | rfl | rfl | rfl <;> decide
    · walk_at "pv"
      exact ⟨rfl, xs, rfl, hx, hx0, by omega⟩
    clear hx hx0 hx1
    rintro s m ⟨rfl, xs, rfl, hx, hx0, hx1⟩
    walk_at "pv"
    refine one_w h0 (by omega) (by rw [List.length_map]; exact hx0) (by rw [List.length_map]; omega) fun v hv a1 r1 d1 d2 => ?_
    obtain ⟨w, hw, rfl⟩ := List.mem_map.mp hv
    rcases hx w hw with h | ⟨h, hr⟩ | ⟨h, hr⟩ | ⟨h, hr⟩
    · have hw2 : w ∈ plW := h
      simp only [plW, List.mem_cons, List.not_mem_nil, or_false] at h
      rcases h with rfl | rfl
      all_goals (
        walk_at "pv"
        refine letter_w (by omega) (by omega) fun x hx a2 r2 e1 e2 => ?_
        walk_at "pv"
        refine letter_w (by omega) (by omega) fun y hy a3 r3 f1 f2 => ?_
        walk_at "pv"
        exact q (.pl _ x y) a3 r3 ⟨hw2, hx, hy⟩ (by simp [Q.items]; omega) (by omega) (by simp [Q.items]; omega))
    · subst h
      walk_at "pv"
      rw [show (room : Int) - 1 = ((room - 1 : Nat) : Int) by omega]
      refine ih (room - 1) (by omega) (by omega) (by omega) looks (n + 3) a1 r1 (by omega) (by omega) (by omega) fun q1 a2 r2 ok hl e1 e2 => ?_
      walk_at "pv"
      exact q (.nt q1) a2 r2 ok (by simp [Q.items]; omega) (by omega) (by simp [Q.items]; omega)
    · have hw2 : w ∈ lkW := h
      simp only [lkW, List.mem_cons, List.not_mem_nil, or_false] at h
      rcases h with rfl | rfl
      all_goals (
        walk_at "pv"
        refine letter_w (by omega) (by omega) fun x hx a2 r2 e1 e2 => ?_
        walk_at "pv"
        rw [show (room : Int) - 2 = ((room - 2 : Nat) : Int) by omega]
        refine ih (room - 2) (by omega) (by omega) (by omega) _ (n + 3) a2 r2 (by omega) (by omega) (by omega) fun q1 a3 r3 ok hl f1 f2 => ?_
        walk_at "pv"
        exact q (.lk _ x q1) a3 r3 ⟨hw2, hx, ok⟩ (by simp [Q.items]; omega) (by omega) (by simp [Q.items]; omega))
    · have hw2 : w ∈ jnW := h
      simp only [jnW, List.mem_cons, List.not_mem_nil, or_false] at h
      rcases h with rfl | rfl
      all_goals (
        walk_at "pv"
        refine draw_w (by omega) (by omega) (by omega) (by omega) fun k a2 r2 k1 k2 e1 e2 => ?_
        walk_at "pv"
        rw [show 3 + k = ((3 + k.toNat : Nat) : Int) by omega]
        refine ih (3 + k.toNat) (by omega) (by omega) (by omega) _ (n + 3) a2 r2 (by omega) (by omega) (by omega) fun q1 a3 r3 ok1 hl1 f1 f2 => ?_
        walk_at "pv"
        have h3 := q1.len3
        rw [show (room : Int) - 1 - ((dS q1.items).length : Int) = ((room - 1 - q1.items.length : Nat) : Int) by rw [List.length_map]; omega]
        refine ih (room - 1 - q1.items.length) (by omega) (by omega) (by omega) _ (n + 3) a3 r3 (by omega) (by omega) (by omega) fun q2 a4 r4 ok2 hl2 g1 g2 => ?_
        walk_at "pv"
        have e : ∀ w, [D.str w] ++ dS q1.items ++ dS q2.items = dS (Q.jn w q1 q2).items := fun w => by simp only [Q.items, List.map_cons, List.map_append]; rfl
        rw [e]
        exact q (.jn _ q1 q2) a4 r4 ⟨hw2, ok1, ok2⟩ (by simp [Q.items]; omega) (by omega) (by simp [Q.items]; omega))
end Lw

set_option linter.all false
set_option autoImplicit false
set_option maxRecDepth 100000
set_option maxHeartbeats 4000000
set_option Elab.async false
namespace Lw
open PySem Pv
local macro_rules | `(tactic| walk_at "dr") => `(tactic| first | exact dr_loc _ (by assumption) | ((with_reducible refine dr_end' ?_); exact rfl) | exact dr_loc _ (get_setM (by assumption)) | exact rfl)
local macro_rules | `(tactic| walk_at "get") => `(tactic| first | assumption | ((with_reducible refine get_end' ?_); exact rfl) | exact get_setM (by assumption) | exact rfl)
local macro_rules | `(tactic| walk_at "bmt") => `(tactic| first | exact rfl | ((with_reducible rw [dr_end]); exact rfl) | (rw [dr_loc _ (by walk_at "get")]; exact rfl))
local macro_rules | `(tactic| walk_at "len") => `(tactic| first | exact rfl | exact len_setM | (simp only [List.length_append, List.length_cons, List.length_nil, len_setM]; done))
local macro_rules | `(tactic| walk_at "pv") => `(tactic| repeat (first
  | (refine gE ?_; first | refine we_var rfl ?_ | refine we_int ?_ | refine we_str ?_ | refine we_cmp ?_ | refine we_bin ?_ | refine we_fld ?_ | refine we_ix ?_ | refine we_meth ?_ | refine we_call ?_ | refine we_not ?_ | refine we_and ?_ | refine we_or ?_ | refine we_glo rfl ?_ | refine we_bi ?_ | refine we_bm ?_ | refine we_tup rfl ?_ | refine we_lst rfl ?_ | refine we_lstk rfl ?_ | refine we_isi ?_ | refine we_ite ?_ | refine we_non ?_ | refine we_bl ?_ | refine we_strI ?_ | refine we_dic0 ?_ | refine we_slc ?_ | refine we_neg ?_ | refine we_new ?_ | refine we_rev ?_)
  | (refine gL ?_; first | refine wl_cons ?_ | refine wl_nil ?_)
  | (refine gSs ?_; first | refine wss_cons ?_ | refine wss_nil ?_)
  | (refine gS ?_; first | refine ws_asg ?_ | refine ws_ret ?_ | refine ws_ite ?_ | refine ws_ex ?_ | refine ws_retn ?_ | refine ws_pass ?_ | refine ws_forW ?_ | refine ws_asgf ?_ | refine ws_asgs ?_ | refine ws_par ?_ | refine ws_asgt ?_ | refine ws_raise ?_ | refine ws_try ?_)
  | (refine gIf ?_; first | refine wif_t ?_ | refine wif_f ?_ | refine wif_not ?_ | (with_reducible refine wif_eqt (decide_eq_true rfl) ?_) | refine wif_eqt (decide_eq_true (by omega)) ?_ | refine wif_eqf (decide_eq_false (by omega)) ?_)
  | (refine gT ?_; first | refine wt_bl ?_ | refine wt_int ?_)
  | (refine gC ?_; first | refine wcmp_eqi ?_ | refine wcmp_eqs ?_ | refine wcmp_lt ?_ | refine wcmp_le ?_ | refine wcmp_gt ?_ | refine wcmp_ge ?_ | refine wcmp_nei ?_ | refine wcmp_eqb ?_ | refine wcmp_neb ?_ | refine wcmp_nes ?_ | refine wcmp_in rfl ?_ | refine wcmp_notin rfl ?_ | refine wcmp_isn ?_ | refine wcmp_isnotn ?_)
  | (refine gO2 ?_; first | refine wo_add ?_ | refine wo_sub ?_ | refine wo_addb ?_ | refine wo_addl (by simp only [List.length_append, List.length_cons, List.length_nil, List.length_map]; omega) ?_)
  | (refine gO ?_; first | refine wo_none ?_ | refine wo_some ?_)
  | refine wfk rfl rfl ?_
  | (refine gMeth ?_; refine wmeth (by walk_at "dr") rfl rfl rfl ?_)
  | (refine gFld ?_; first | refine wfld (by walk_at "dr") rfl rfl ?_ | refine wfld_x (by walk_at "dr") rfl rfl ?_)
  | (refine gIx ?_; first | refine wix_t (by walk_at "dr") rfl ?_ | refine wix_l (by walk_at "dr") rfl ?_)
  | (refine gBi ?_; first | (refine wbi_repri ?_ ?_ ?_; (· omega); (· omega)) | refine wbi_reprb ?_ | refine wbi rfl ?_ | refine wbi_lenl (by walk_at "dr") ?_)
  | refine wand_bl ?_ | refine wor_bl ?_ | refine isI ?_ | refine isS ?_ | refine isB ?_
  | refine wasgt rfl ?_ | refine wpar rfl ?_ | refine wraise rfl ?_ | refine witm rfl ?_ | refine wrng rfl ?_
  | (refine gAsgF ?_; first | ((with_reducible refine wasgfE ?_ ?_); (· exact rfl)) | refine wasgf (by walk_at "get") rfl ?_) | (refine gAsgS ?_; refine wasgs (by walk_at "get") rfl ?_)
  | (refine gBmT ?_; refine wbmt (by walk_at "bmt") ?_)
  | (refine gBm ?_; first | ((with_reducible refine wbm_appE ?_ ?_); (· first | omega | (simp; done) | (simp; omega))) | ((with_reducible refine wbm_extE ?_ ?_); (· first | omega | (simp; done) | (simp; omega))) | with_reducible refine wbm_popE ?_ | refine wbm rfl ?_)
  | refine wisi rfl ?_
  | (refine gSlc ?_; first | refine wslc_l (by walk_at "dr") ?_ | refine wslc_t (by walk_at "dr") ?_)
  | (refine gRev ?_; refine wrev (by walk_at "dr") ?_)
  | refine wstr_s ?_ | refine tr_mkf ?_ | refine tr_mkt ?_ | refine wts_nil ?_ | refine wts_cons ?_ | refine wi_seq ?_ | refine wi_rng ?_ | refine wfor_nil ?_ | ((with_reducible refine wfor_cons (s' := ?_) ?_ ?_); rotate_left 1; exact rfl) | (refine gLv ?_; refine lv_eq (by walk_at "len") ?_)
  | (refine gEnd ?_; refine wend (by walk_at "len") ?_) | (refine gEndX ?_; refine wendx (by walk_at "len") ?_)))
/-! ### put together -/
theorem jr_not (p q : Q) (ok : p.ok) (o : D) (n : Nat) {m : Mu} (hm : nlM m.length m) (hl : p.items.length ≤ 40) (hn : 48 ≤ n) : run pd.P n 28 [QV p, .lst (dS p.items), .str "not", o, .lst (dS q.items)] m = .ok (.bl true) m := by
  obtain ⟨n, rfl⟩ : ∃ j, n = j + 3 := ⟨n - 3, by omega⟩
  refine wf_get (wrunK [some (QV p), some (.lst (dS p.items)), some (.str "not"), some o, some (.lst (dS q.items)), none, none] rfl rfl rfl ?_)
  walk_at "pv"
  refine wf_eq (joined_not p ok o (n + 2) hm hl (by omega)) ?_
  walk_at "pv"
  have e : [D.str "not"] ++ dS p.items ++ [] = dS (Q.nt p).items := by simp [Q.items]
  rw [e]
  have hel : (dS (Q.nt p).items).length = p.items.length + 1 := by simp [Q.items]
  have hel2 : (Q.nt p).items.length = p.items.length + 1 := by simp [Q.items]
  by_cases h : p.items.length < 40
  · rw [if_pos h]
    walk_at "pv"
    refine wf_eq (istold_w (.nt p) ok n hm (by omega)) ?_
    walk_at "pv"
    refine wbm_join (ok_words (.nt p) ok) (by omega) ?_
    walk_at "pv"
    refine wf_eq (read_w (.nt p) ok _ hm (by omega) (by omega)) ?_
    refine wcmp_eqo rfl rfl rfl (wf_eq (eq_w (.nt p) (.nt p) ok ok _) ?_)
    walk_at "pv"
    refine ⟨?_, rfl⟩
    rw [decide_eq_true rfl]
  · rw [if_neg h]
    walk_at "pv"
    refine wcmp_eqd (fun _ _ h => nomatch h) (fun _ _ h => nomatch h) rfl ?_
    walk_at "pv"
    exact ⟨rfl, rfl⟩
theorem jr_and (p q : Q) (okp : p.ok) (ok : q.ok) (n : Nat) {m : Mu} (hm : nlM m.length m) (hl : p.items.length ≤ 40) (hl2 : q.items.length ≤ 40) (hn : 48 ≤ n) : run pd.P n 28 [QV p, .lst (dS p.items), .str "and", QV q, .lst (dS q.items)] m = .ok (.bl true) m := by
  obtain ⟨n, rfl⟩ : ∃ j, n = j + 3 := ⟨n - 3, by omega⟩
  refine wf_get (wrunK [some (QV p), some (.lst (dS p.items)), some (.str "and"), some (QV q), some (.lst (dS q.items)), none, none] rfl rfl rfl ?_)
  walk_at "pv"
  refine wf_eq (joined_and p q okp ok (n + 2) hm hl hl2 (by omega)) ?_
  have e : [D.str "and"] ++ dS p.items ++ dS q.items = dS (Q.jn "and" p q).items := by simp only [Q.items, List.map_cons, List.map_append]; rfl
  rw [e]
  have okj : (Q.jn "and" p q).ok := ⟨by decide, okp, ok⟩
  have hel : (dS (Q.jn "and" p q).items).length = p.items.length + q.items.length + 1 := by simp [Q.items]
  have hel2 : (Q.jn "and" p q).items.length = p.items.length + q.items.length + 1 := by simp [Q.items]
  by_cases h : p.items.length + q.items.length < 40
  · rw [if_pos h]
    walk_at "pv"
    refine wf_eq (istold_w _ okj n hm (by omega)) ?_
    walk_at "pv"
    refine wbm_join (ok_words _ okj) (by omega) ?_
    walk_at "pv"
    refine wf_eq (read_w _ okj _ hm (by omega) (by omega)) ?_
    refine wcmp_eqo rfl rfl rfl (wf_eq (eq_w _ _ okj okj _) ?_)
    walk_at "pv"
    refine ⟨?_, rfl⟩
    rw [decide_eq_true rfl]
  · rw [if_neg h]
    walk_at "pv"
    refine wcmp_eqd (fun _ _ h => nomatch h) (fun _ _ h => nomatch h) rfl ?_
    walk_at "pv"
    exact ⟨rfl, rfl⟩
theorem jr_or (p q : Q) (okp : p.ok) (ok : q.ok) (n : Nat) {m : Mu} (hm : nlM m.length m) (hl : p.items.length ≤ 40) (hl2 : q.items.length ≤ 40) (hn : 48 ≤ n) : run pd.P n 28 [QV p, .lst (dS p.items), .str "or", QV q, .lst (dS q.items)] m = .ok (.bl true) m := by
  obtain ⟨n, rfl⟩ : ∃ j, n = j + 3 := ⟨n - 3, by omega⟩
  refine wf_get (wrunK [some (QV p), some (.lst (dS p.items)), some (.str "or"), some (QV q), some (.lst (dS q.items)), none, none] rfl rfl rfl ?_)
  walk_at "pv"
  refine wf_eq (joined_or p q okp ok (n + 2) hm hl hl2 (by omega)) ?_
  have e : [D.str "or"] ++ dS p.items ++ dS q.items = dS (Q.jn "or" p q).items := by simp only [Q.items, List.map_cons, List.map_append]; rfl
  rw [e]
  have okj : (Q.jn "or" p q).ok := ⟨by decide, okp, ok⟩
  have hel : (dS (Q.jn "or" p q).items).length = p.items.length + q.items.length + 1 := by simp [Q.items]
  have hel2 : (Q.jn "or" p q).items.length = p.items.length + q.items.length + 1 := by simp [Q.items]
  by_cases h : p.items.length + q.items.length < 40
  · rw [if_pos h]
    walk_at "pv"
    refine wf_eq (istold_w _ okj n hm (by omega)) ?_
    walk_at "pv"
    refine wbm_join (ok_words _ okj) (by omega) ?_
    walk_at "pv"
    refine wf_eq (read_w _ okj _ hm (by omega) (by omega)) ?_
    refine wcmp_eqo rfl rfl rfl (wf_eq (eq_w _ _ okj okj _) ?_)
    walk_at "pv"
    refine ⟨?_, rfl⟩
    rw [decide_eq_true rfl]
  · rw [if_neg h]
    walk_at "pv"
    refine wcmp_eqd (fun _ _ h => nomatch h) (fun _ _ h => nomatch h) rfl ?_
    walk_at "pv"
    exact ⟨rfl, rfl⟩
/-! ### what is none -/
def odds (q : Q) : List D := [.str (txt q.items), .non, .lst (dS q.items), .bl true, .int 0, .tup [.str "tied", .str "x", .str "y"], .tup [], .dic [], .lst [QV q]]
theorem odds_odd (q : Q) : ∀ d ∈ odds q, Odd d := by
  intro d hd
  simp only [odds, List.mem_cons, List.not_mem_nil, or_false] at hd
  have h1 : nl 0 (.lst (dS q.items)) = true := nl_lst (nls_strs _)
  have h2 : nl 0 (.lst [QV q]) = true := nl_lst (by simp [nls, QV_nl])
  rcases hd with rfl | rfl | rfl | rfl | rfl | rfl | rfl | rfl | rfl
  · exact ⟨rfl, fun _ => rfl, rfl, rfl⟩
  · exact ⟨rfl, fun _ => rfl, rfl, rfl⟩
  · exact ⟨rfl, fun _ => rfl, rfl, h1⟩
  · exact ⟨rfl, fun _ => rfl, rfl, rfl⟩
  · exact ⟨rfl, fun _ => rfl, rfl, rfl⟩
  · exact ⟨rfl, fun _ => rfl, rfl, rfl⟩
  · exact ⟨rfl, fun _ => rfl, rfl, rfl⟩
  · exact ⟨rfl, fun _ => rfl, rfl, rfl⟩
  · exact ⟨rfl, fun _ => rfl, rfl, h2⟩
theorem odd_w (q : Q) (ok : q.ok) (n : Nat) {cs : List Int} {a r : Int} (hl : q.items.length ≤ 40) (h0 : 0 ≤ a) (ha : a ≤ 2 ^ 20) {K : D → Mu → Prop} {X : Px} (k : ∀ a' r', a ≤ a' → a' ≤ a + 1 → K (.bl true) (PM cs a' r')) : WF (run pd.P (n + 4)) 29 [.loc 0, QV q, .lst (dS q.items)] (PM cs a r) K X := by
  refine wrunK [some (.loc 0), some (QV q), some (.lst (dS q.items)), none, none] rfl rfl rfl ?_
  walk_at "pv"
  refine wbm_join (ok_words q ok) (by omega) ?_
  walk_at "pv"
  refine one_w (xs := odds q) h0 ha (by simp [odds]) (by simp [odds]) fun v hv a' r' d1 d2 => ?_
  have ho := odds_odd q v hv
  walk_at "pv"
  refine wf_eq (joined_odd q v ho "and" (by decide) n) ?_
  walk_at "pv"
  refine wcmp_ned (fun _ _ h => nomatch h) (fun _ _ h => nomatch h) rfl ?_
  walk_at "pv"
  refine wf_eq (joined_odd q v ho "or" (by decide) n) ?_
  walk_at "pv"
  refine wcmp_ned (fun _ _ h => nomatch h) (fun _ _ h => nomatch h) rfl ?_
  walk_at "pv"
  refine wcmp_neo rfl rfl (by rw [ho.2.1]; exact ho.2.2.1) (wf_eq (eq_odd q v ho _) ?_)
  walk_at "pv"
  refine wcmp_eqo rfl rfl (by rw [ho.2.1]; exact ho.2.2.1) (wf_eq (eq_odd q v ho _) ?_)
  walk_at "pv"
  refine wf_eq (istold_w q ok _ pen_nl (by omega)) ?_
  walk_at "pv"
  exact k a' r' d1 d2
end Lw

set_option linter.all false
set_option autoImplicit false
set_option maxRecDepth 100000
set_option maxHeartbeats 4000000
set_option Elab.async false
namespace Lw
open PySem Pv
local macro_rules | `(tactic| walk_at "dr") => `(tactic| first | exact dr_loc _ (by assumption) | ((with_reducible refine dr_end' ?_); exact rfl) | exact dr_loc _ (get_setM (by assumption)) | exact rfl)
local macro_rules | `(tactic| walk_at "get") => `(tactic| first | assumption | ((with_reducible refine get_end' ?_); exact rfl) | exact get_setM (by assumption) | exact rfl)
local macro_rules | `(tactic| walk_at "bmt") => `(tactic| first | exact rfl | ((with_reducible rw [dr_end]); exact rfl) | (rw [dr_loc _ (by walk_at "get")]; exact rfl))
local macro_rules | `(tactic| walk_at "len") => `(tactic| first | exact rfl | exact len_setM | (simp only [List.length_append, List.length_cons, List.length_nil, len_setM]; done))
local macro_rules | `(tactic| walk_at "pv") => `(tactic| repeat (first
  | (refine gE ?_; first | refine we_var rfl ?_ | refine we_int ?_ | refine we_str ?_ | refine we_cmp ?_ | refine we_bin ?_ | refine we_fld ?_ | refine we_ix ?_ | refine we_meth ?_ | refine we_call ?_ | refine we_not ?_ | refine we_and ?_ | refine we_or ?_ | refine we_glo rfl ?_ | refine we_bi ?_ | refine we_bm ?_ | refine we_tup rfl ?_ | refine we_lst rfl ?_ | refine we_lstk rfl ?_ | refine we_isi ?_ | refine we_ite ?_ | refine we_non ?_ | refine we_bl ?_ | refine we_strI ?_ | refine we_dic0 ?_ | refine we_slc ?_ | refine we_neg ?_ | refine we_new ?_ | refine we_rev ?_)
  | (refine gL ?_; first | refine wl_cons ?_ | refine wl_nil ?_)
  | (refine gSs ?_; first | refine wss_cons ?_ | refine wss_nil ?_)
  | (refine gS ?_; first | refine ws_asg ?_ | refine ws_ret ?_ | refine ws_ite ?_ | refine ws_ex ?_ | refine ws_retn ?_ | refine ws_pass ?_ | refine ws_forW ?_ | refine ws_asgf ?_ | refine ws_asgs ?_ | refine ws_par ?_ | refine ws_asgt ?_ | refine ws_raise ?_ | refine ws_try ?_)
  | (refine gIf ?_; first | refine wif_t ?_ | refine wif_f ?_ | refine wif_not ?_ | (with_reducible refine wif_eqt (decide_eq_true rfl) ?_) | refine wif_eqt (decide_eq_true (by omega)) ?_ | refine wif_eqf (decide_eq_false (by omega)) ?_)
  | (refine gT ?_; first | refine wt_bl ?_ | refine wt_int ?_)
  | (refine gC ?_; first | refine wcmp_eqi ?_ | refine wcmp_eqs ?_ | refine wcmp_lt ?_ | refine wcmp_le ?_ | refine wcmp_gt ?_ | refine wcmp_ge ?_ | refine wcmp_nei ?_ | refine wcmp_eqb ?_ | refine wcmp_neb ?_ | refine wcmp_nes ?_ | refine wcmp_in rfl ?_ | refine wcmp_notin rfl ?_ | refine wcmp_isn ?_ | refine wcmp_isnotn ?_)
  | (refine gO2 ?_; first | refine wo_add ?_ | refine wo_sub ?_ | refine wo_addb ?_ | refine wo_addl (by simp only [List.length_append, List.length_cons, List.length_nil, List.length_map]; omega) ?_)
  | (refine gO ?_; first | refine wo_none ?_ | refine wo_some ?_)
  | refine wfk rfl rfl ?_
  | (refine gMeth ?_; refine wmeth (by walk_at "dr") rfl rfl rfl ?_)
  | (refine gFld ?_; first | refine wfld (by walk_at "dr") rfl rfl ?_ | refine wfld_x (by walk_at "dr") rfl rfl ?_)
  | (refine gIx ?_; first | refine wix_t (by walk_at "dr") rfl ?_ | refine wix_l (by walk_at "dr") rfl ?_)
  | (refine gBi ?_; first | (refine wbi_repri ?_ ?_ ?_; (· omega); (· omega)) | refine wbi_reprb ?_ | refine wbi rfl ?_ | refine wbi_lenl (by walk_at "dr") ?_)
  | refine wand_bl ?_ | refine wor_bl ?_ | refine isI ?_ | refine isS ?_ | refine isB ?_
  | refine wasgt rfl ?_ | refine wpar rfl ?_ | refine wraise rfl ?_ | refine witm rfl ?_ | refine wrng rfl ?_
  | (refine gAsgF ?_; first | ((with_reducible refine wasgfE ?_ ?_); (· exact rfl)) | refine wasgf (by walk_at "get") rfl ?_) | (refine gAsgS ?_; refine wasgs (by walk_at "get") rfl ?_)
  | (refine gBmT ?_; refine wbmt (by walk_at "bmt") ?_)
  | (refine gBm ?_; first | ((with_reducible refine wbm_appE ?_ ?_); (· first | omega | (simp; done) | (simp; omega))) | ((with_reducible refine wbm_extE ?_ ?_); (· first | omega | (simp; done) | (simp; omega))) | with_reducible refine wbm_popE ?_ | refine wbm rfl ?_)
  | refine wisi rfl ?_
  | (refine gSlc ?_; first | refine wslc_l (by walk_at "dr") ?_ | refine wslc_t (by walk_at "dr") ?_)
  | (refine gRev ?_; refine wrev (by walk_at "dr") ?_)
  | refine wstr_s ?_ | refine tr_mkf ?_ | refine tr_mkt ?_ | refine wts_nil ?_ | refine wts_cons ?_ | refine wi_seq ?_ | refine wi_rng ?_ | refine wfor_nil ?_ | ((with_reducible refine wfor_cons (s' := ?_) ?_ ?_); rotate_left 1; exact rfl) | (refine gLv ?_; refine lv_eq (by walk_at "len") ?_)
  | (refine gEnd ?_; refine wend (by walk_at "len") ?_) | (refine gEndX ?_; refine wendx (by walk_at "len") ?_)))
/-! ### drawn -/
def nots : Nat → Q → Q
  | 0, q => q
  | n + 1, q => .nt (nots n q)
theorem nots_ok {q : Q} (ok : q.ok) : ∀ n, (nots n q).ok
  | 0 => ok
  | n + 1 => nots_ok ok n
theorem nots_items (q : Q) : ∀ n, (nots n q).items = List.replicate n ("not" : Str) ++ q.items
  | 0 => rfl
  | n + 1 => by simp only [nots, Q.items, nots_items q n, List.replicate_succ, List.cons_append]
theorem rep_flat (x : D) : ∀ n : Nat, (List.replicate n [x]).flatten = List.replicate n x
  | 0 => rfl
  | n + 1 => by simp only [List.replicate_succ, List.flatten_cons, rep_flat x n]; rfl
section
variable {cs : List Int}
theorem dS_app (l k : List Str) : dS (l ++ k) = dS l ++ dS k := List.map_append ..
theorem dS_len (l : List Str) : (dS l).length = l.length := List.length_map ..
def Jw (cs : List Int) (a : Int) (room : Nat) (k : Nat) (s : Sl) (m : Mu) : Prop :=
  ∃ (q : Q) (a' r' : Int), q.ok ∧ q.items.length ≤ 40 ∧ k = 40 - q.items.length ∧ a ≤ a' ∧ a' + 2 * k ≤ a + 180 ∧ m = PM cs a' r' ∧ s = [some (.loc 0), some (.int room), some (.int 0), some (.lst (dS q.items)), none]
theorem drawn_w (n : Nat) (a r : Int) (hn : 45 ≤ n) (h0 : 0 ≤ a) (ha : a + 400 ≤ 2 ^ 20) {K : D → Mu → Prop} {X : Px}
    (k : ∀ (q : Q) (a' r' : Int), q.ok → q.items.length ≤ 40 → a ≤ a' → 0 ≤ a' → a' ≤ a + 200 → K (.lst (dS q.items)) (PM cs a' r')) : WF (run pd.P n) 24 [.loc 0] (PM cs a r) K X := by
  obtain ⟨n, rfl⟩ : ∃ j, n = j + 4 := ⟨n - 4, by omega⟩
  refine wrunK [some (.loc 0), none, none, none, none] rfl rfl rfl ?_
  walk_at "pv"
  refine one_w h0 (by omega) (by decide) (by decide) fun v hv a1 r1 d1 d2 => ?_
  have hr : ∃ room : Nat, v = .int room ∧ 3 ≤ room ∧ room ≤ 40 := by
    simp only [List.mem_cons, List.not_mem_nil, or_false] at hv
    rcases hv with rfl | rfl | rfl | rfl | rfl | rfl
    · exact ⟨40, rfl, by decide, by decide⟩
    · exact ⟨12, rfl, by decide, by decide⟩
    · exact ⟨5, rfl, by decide, by decide⟩
    · exact ⟨20, rfl, by decide, by decide⟩
    · exact ⟨3, rfl, by decide, by decide⟩
    · exact ⟨40, rfl, by decide, by decide⟩
  obtain ⟨room, rfl, hr3, hr40⟩ := hr
  clear hv
  walk_at "pv"
  refine draw_w (by omega) (by omega) (by decide) (by decide) fun way a2 r2 w1 w2 e1 e2 => ?_
  walk_at "pv"
  refine wif_dec (fun h => ?_) (fun h => ?_)
  · subst h
    walk_at "pv"
    refine draw_w (by omega) (by omega) (by decide) (by decide) fun j a3 r3 j1 j2 f1 f2 => ?_
    walk_at "pv"
    rw [show 3 + j = ((3 + j.toNat : Nat) : Int) by omega]
    refine itemsL_w cs (3 + j.toNat) (by omega) (by omega) 3 (n + 3) a3 r3 (by omega) (by omega) (by omega) fun q a4 r4 ok hl g1 g2 => ?_
    walk_at "pv"
    refine ws_whl (Jw cs a room) (40 - q.items.length) (by omega) ⟨q, a4, r4, ok, by omega, rfl, by omega, by omega, rfl, rfl⟩ ?_
    clear ok hl g1 g2 j1 j2 f1 f2 w1 w2
    rintro n' s m ⟨q, a', r', ok, hl, rfl, b1, b2, rfl, rfl⟩
    have hdl : (dS q.items).length = q.items.length := List.length_map ..
    walk_at "pv"
    refine wif_dec (fun h => ?_) (fun h => ?_)
    · walk_at "pv"
      refine one_w (by omega) (by omega) (by decide) (by decide) fun v hv a5 r5 d1 d2 => ?_
      obtain ⟨w, hw, rfl⟩ : ∃ w, w ∈ lkW ∧ v = .str w := by
        simp only [List.mem_cons, List.not_mem_nil, or_false] at hv
        rcases hv with rfl | rfl
        · exact ⟨"some", by decide, rfl⟩
        · exact ⟨"all", by decide, rfl⟩
      walk_at "pv"
      refine letter_w (by omega) (by omega) fun x hx a6 r6 e1 e2 => ?_
      walk_at "pv"
      exact ⟨40 - (q.items.length + 2), by omega, .lk w x q, a6, r6, ⟨hw, hx, ok⟩, by simp [Q.items]; omega, by simp [Q.items], by omega, by omega, rfl, rfl⟩
    · walk_at "pv"
      exact k q a' r' ok hl b1 (by omega) (by omega)
  · walk_at "pv"
    refine one_w (by omega) (by omega) (by decide) (by decide) fun v hv a3 r3 f1 f2 => ?_
    obtain ⟨lk, rfl⟩ : ∃ i : Int, v = .int i := by
      simp only [List.mem_cons, List.not_mem_nil, or_false] at hv
      rcases hv with rfl | rfl | rfl | rfl | rfl | rfl <;> exact ⟨_, rfl⟩
    walk_at "pv"
    refine itemsL_w cs room (by omega) (by omega) lk (n + 3) a3 r3 (by omega) (by omega) (by omega) fun q a4 r4 ok hl g1 g2 => ?_
    have hdl : (dS q.items).length = q.items.length := List.length_map ..
    walk_at "pv"
    refine wif_dec (fun h => ?_) (fun h => ?_)
    · subst h
      walk_at "pv"
      refine one_w (by omega) (by omega) (by decide) (by decide) fun v hv a5 r5 d1 d2 => ?_
      obtain ⟨i, rfl, hi⟩ : ∃ i : Int, v = .int i ∧ i ≤ 40 := by
        simp only [List.mem_cons, List.not_mem_nil, or_false] at hv
        rcases hv with rfl | rfl | rfl | rfl <;> exact ⟨_, rfl, by decide⟩
      walk_at "pv"
      have e : ((if i > ((dS q.items).length : Int) then i else ((dS q.items).length : Int)) - ((dS q.items).length : Int)).toNat + q.items.length ≤ 40 := by
        rw [hdl]; split <;> omega
      generalize hk : ((if i > ((dS q.items).length : Int) then i else ((dS q.items).length : Int)) - ((dS q.items).length : Int)) = j at e
      have hj : 0 ≤ j := by rw [hdl] at hk; split at hk <;> omega
      refine wo_rep (by omega) (by omega) (by simp only [List.length_cons, List.length_nil]; omega) ?_
      walk_at "pv"
      refine wo_addl (by rw [rep_flat, List.length_replicate]; omega) ?_
      walk_at "pv"
      have e2 : (List.replicate j.toNat [D.str "not"]).flatten ++ dS q.items = dS (nots j.toNat q).items := by
        rw [rep_flat, nots_items, dS_app]
        show _ = (List.replicate j.toNat ("not" : Str)).map D.str ++ _
        rw [List.map_replicate]
      rw [e2]
      exact k (nots j.toNat q) a5 r5 (nots_ok ok _) (by rw [nots_items, List.length_append, List.length_replicate]; omega) (by omega) (by omega) (by omega)
    · walk_at "pv"
      exact k q a4 r4 ok (by omega) (by omega) (by omega) (by omega)
/-- the last three items -/
def leaf : Q → Q
  | .pl w a b => .pl w a b
  | .nt q => leaf q
  | .lk _ _ q => leaf q
  | .jn _ _ q => leaf q
theorem leaf_ok : ∀ q : Q, q.ok → (leaf q).ok
  | .pl _ _ _, h => h
  | .nt q, h => leaf_ok q h
  | .lk _ _ q, h => leaf_ok q h.2.2
  | .jn _ _ q, h => leaf_ok q h.2.2
theorem leaf_items : ∀ q : Q, ∃ pre, q.items = pre ++ (leaf q).items ∧ (leaf q).items.length = 3
  | .pl _ _ _ => ⟨[], rfl, rfl⟩
  | .nt q => by obtain ⟨pre, e, h⟩ := leaf_items q; exact ⟨"not" :: pre, by simp only [Q.items, e, leaf]; rfl, h⟩
  | .lk w a q => by obtain ⟨pre, e, h⟩ := leaf_items q; exact ⟨w :: a :: pre, by simp only [Q.items, e, leaf]; rfl, h⟩
  | .jn w p q => by obtain ⟨pre, e, h⟩ := leaf_items q; exact ⟨w :: (p.items ++ pre), by simp only [Q.items, e, leaf, List.append_assoc, List.cons_append], h⟩
theorem leaf_slice (q : Q) : slice (dS q.items) (some (-3)) none = dS (leaf q).items := by
  obtain ⟨pre, e, h⟩ := leaf_items q
  rw [e, dS_app]
  have h1 : (dS pre ++ dS (leaf q).items).length = (dS pre).length + 3 := by rw [List.length_append, dS_len (leaf q).items, h]
  have h2 : clip (dS pre ++ dS (leaf q).items).length 0 (some (-3)) = (dS pre).length := by
    rw [h1]
    unfold clip
    simp only [show ¬ (0 : Int) ≤ -3 by decide, if_false]
    omega
  unfold slice
  rw [h2, List.drop_left]
  exact List.take_of_length_le (by rw [h1, dS_len (leaf q).items, h]; show 3 ≤ (dS pre).length + 3 - (dS pre).length; omega)
def Jl (cs : List Int) (ds : List D) (s : Sl) (m : Mu) : Prop :=
  ∃ (a r : Int) (x0 x2 x3 x4 x5 x6 x7 : Option D), 0 ≤ a ∧ a + 1000 * ds.length ≤ 100000 ∧ m = PM cs a r ∧ s = [x0, some (.loc 0), x2, x3, x4, x5, x6, x7]
theorem law_w (ns : List Int) (h : ns.length ≤ 63) : ∃ m, run pd.P 60 30 [.scr ns] [] = .ok (.bl true) m := by
  have main : WF (run pd.P 60) 30 [.scr ns] [] (fun v _ => v = .bl true) (fun _ _ _ => False) := by
    refine wrunK [some (.scr ns), none, none, none, none, none, none, none] rfl rfl rfl ?_
    walk_at "pv"
    refine wf_eq (pen_run 58 ns h) ?_
    walk_at "pv"
    refine wfor_inv (Jl ns) ?_ ?_ ?_
    · exact ⟨0, 0, _, _, _, _, _, _, _, by decide, by decide, rfl, rfl⟩
    · rintro s m ⟨a, r, x0, x2, x3, x4, x5, x6, x7, h0, ha, rfl, rfl⟩
      walk_at "pv"
      refine wend_cut (m := []) nlM_nil (w := .bl true) (lay_nl rfl) rfl (by simp)
    · rintro d ds s m ⟨a, r, x0, x2, x3, x4, x5, x6, x7, h0, ha, rfl, rfl⟩
      rw [List.length_cons] at ha
      refine ⟨_, rfl, ?_⟩
      walk_at "pv"
      refine drawn_w _ a r (by omega) (by omega) (by omega) fun p a1 r1 okp hlp d1 d2 d3 => ?_
      refine wss_cons (ws_asg (we_cut (fun v m => ∃ (q : Q) (a' r' : Int), q.ok ∧ q.items.length ≤ 40 ∧ 0 ≤ a' ∧ a' ≤ a + 500 ∧ v = .lst (dS q.items) ∧ m = PM ns a' r') ?_ ?_))
      · walk_at "pv"
        refine draw_w (by omega) (by omega) (by decide) (by decide) fun k a2 r2 k1 k2 e1 e2 => ?_
        walk_at "pv"
        refine wif_dec (fun h => ?_) (fun h => ?_)
        · walk_at "pv"
          exact ⟨p, a2, r2, okp, hlp, by omega, by omega, rfl, rfl⟩
        · walk_at "pv"
          refine drawn_w _ a2 r2 (by omega) (by omega) (by omega) fun q a3 r3 okq hlq f1 f2 f3 => ?_
          exact ⟨q, a3, r3, okq, hlq, by omega, by omega, rfl, rfl⟩
      rintro v m ⟨q, a3, r3, okq, hlq, f1, f2, rfl, rfl⟩
      refine wss_cons (ws_cut (fun s m => ∃ (q : Q) (a' r' : Int), q.ok ∧ q.items.length ≤ 40 ∧ 0 ≤ a' ∧ a' ≤ a + 600 ∧ m = PM ns a' r' ∧ s = [x0, some (.loc 0), some d, some (.lst (dS p.items)), some (.lst (dS q.items)), x5, x6, x7]) ?_ ?_)
      · walk_at "pv"
        refine draw_w (by omega) (by omega) (by decide) (by decide) fun k a4 r4 k1 k2 e1 e2 => ?_
        walk_at "pv"
        refine wif_dec (fun h => ?_) (fun h => ?_)
        · walk_at "pv"
          exact ⟨leaf q, a4, r4, leaf_ok q okq, by have := leaf_items q; omega, by omega, by omega, rfl, by rw [leaf_slice]; rfl⟩
        · walk_at "pv"
          exact ⟨q, a4, r4, okq, hlq, by omega, by omega, rfl, rfl⟩
      clear okq hlq f1 f2 q a3 r3 r1 d1 d2 d3 a1
      rintro s m ⟨q, a3, r3, okq, hlq, f1, f2, rfl, rfl⟩
      walk_at "pv"
      refine wbm_join (ok_words p okp) (by omega) ?_
      walk_at "pv"
      refine wf_eq (read_w p okp _ pen_nl hlp (by omega)) ?_
      walk_at "pv"
      refine wbm_join (ok_words q okq) (by omega) ?_
      walk_at "pv"
      refine wf_eq (read_w q okq _ pen_nl hlq (by omega)) ?_
      walk_at "pv"
      refine wf_eq (istold_w p okp _ pen_nl (by omega)) ?_
      walk_at "pv"
      refine wf_eq (istold_w q okq _ pen_nl (by omega)) ?_
      walk_at "pv"
      refine wcmp_eqo rfl rfl rfl (wf_eq (eq_w p q okp okq _) ?_)
      walk_at "pv"
      refine wcmp_eqd (fun _ _ h => nomatch h) (fun _ _ h => nomatch h) (eq_lsts _ _ _) ?_
      walk_at "pv"
      refine wcmp_neo rfl rfl rfl (wf_eq (eq_w p q okp okq _) ?_)
      walk_at "pv"
      refine wcmp_ned (fun _ _ h => nomatch h) (fun _ _ h => nomatch h) (eq_lsts _ _ _) ?_
      walk_at "pv"
      refine wf_eq (jr_not p q okp (QV q) 59 pen_nl hlp (by omega)) ?_
      walk_at "pv"
      refine wf_eq (jr_not q p okq (QV p) 59 pen_nl hlq (by omega)) ?_
      walk_at "pv"
      refine wf_eq (jr_and p q okp okq 59 pen_nl hlp hlq (by omega)) ?_
      walk_at "pv"
      refine wf_eq (jr_and q p okq okp 59 pen_nl hlq hlp (by omega)) ?_
      walk_at "pv"
      refine wf_eq (jr_or p q okp okq 59 pen_nl hlp hlq (by omega)) ?_
      walk_at "pv"
      refine wf_eq (jr_or q p okq okp 59 pen_nl hlq hlp (by omega)) ?_
      walk_at "pv"
      refine wf_eq (jr_and p q okp okq 59 pen_nl hlp hlq (by omega)) ?_
      walk_at "pv"
      refine wf_eq (jr_and q p okq okp 59 pen_nl hlq hlp (by omega)) ?_
      walk_at "pv"
      refine odd_w p okp _ hlp f1 (by omega) fun a4 r4 e1 e2 => ?_
      walk_at "pv"
      refine wf_eq (istold_w q okq _ pen_nl (by omega)) ?_
      walk_at "pv"
      exact ⟨a4, r4, _, _, _, _, _, _, _, by omega, by omega, rfl, rfl⟩
  unfold WF at main
  obtain ⟨v, m, e, rfl⟩ := tr_get main
  exact ⟨m, e⟩
end
end Lw

set_option Elab.async false
set_option linter.all false
set_option autoImplicit false
set_option maxRecDepth 100000
set_option maxHeartbeats 0
namespace Lw
open PySem PySem.Spec PyProof.Rows L2 He Pv
def fn_0 : List DefX := [e0, e1, e2, e3, e4, e5, e6, e7, e8, e9, e10, e11, e12, e13, e14, e15, e16, e17, e18, e19]
def fn_1 : List DefX := [e20, e21, e22, e23, e24, e25, e26, e27, e28, e29, e30, x0, x1, x2]
def fn : List DefX := fn_0 ++ fn_1
def q_NEEDED : List (Str × Dv) := [("tied", .int 2), ("same", .int 2), ("not", .int 3), ("and", .int 6), ("or", .int 6), ("some", .int 4), ("all", .int 4)]
def fa_0 : List He.Fa := [.glo "NEEDED", .int "MOST_ITEMS" 40, .glo "PLAIN", .glo "NAMES", .glo "LOOKS", .glo "JOINED", .int "LEAST_ITEMS" 3, .str "NEGATION" "not", .glo "need_question", .glo "take_root", .glo "items_of", .glo "free_of", .glo "looks_of", .glo "_law_pen", .glo "_law_draw", .glo "_law_one_of", .glo "_law_letter", .glo "_law_items", .glo "_law_drawn", .glo "_law_told"]
def fa_1 : List He.Fa := [.glo "_law_is_told", .glo "_law_joined", .glo "_law_join_right", .glo "_law_odd_right", .glo "law", .glo "ThinError", .glo "BadQuestion", .glo "TooMany", .glo "BadText", .glo "Scan", .glo "Question", .free "isinstance", .free "str", .free "len", .free "list", .free "max", .free "set", .free "sorted", .free "tuple", .free "int"]
def fa_2 : List He.Fa := [.free "abs", .free "repr", .free "range"]
def fa : List He.Fa := fa_0 ++ fa_1 ++ fa_2
def tl : List (Str × List Dv) := [("PLAIN", [.str "tied", .str "same"]), ("NAMES", [.str "x", .str "y", .str "z"]), ("LOOKS", [.str "some", .str "all"]), ("JOINED", [.str "and", .str "or"])]
def vl : List (Str × List (Str × Dv)) := [("NEEDED", q_NEEDED)]
def tabs : List Tab := [(fun K => ga K "NEEDED", q_NEEDED.map (·.1))]
def fx : Fx := { fa := fa, tl := tl, vl := vl, sl := [(5, "read", 13)], xl := [(1, .met "BadQuestion" "__init__", [11]), (2, .met "TooMany" "__init__", [17, 18]), (3, .met "BadText" "__init__", [0, 1])] }
abbrev Sy (T : Wd) : Prop := SaysP (fx.ok pd) fn tabs T.w T.K
theorem nm_of {T : Wd} {h : Heap} (X : T.K.In h) (G : h.Ns mainGlobals T.mg) (c : Sy T) : Nm T where
  m_NEEDED := glo_ok X G (fx_fact c.parts.1.1 0 rfl)
  r_NEEDED := fun F R => dic_rel (qs := q_NEEDED) (c.tab 0 rfl) (fx_val c.parts.1.1 0 rfl) rfl
  m_MOST_ITEMS := int_ok X G (fx_fact c.parts.1.1 1 rfl)
  m_PLAIN := glo_ok X G (fx_fact c.parts.1.1 2 rfl)
  r_PLAIN := fun F R => tup_rel (fx_tup c.parts.1.1 0 rfl) rfl
  m_NAMES := glo_ok X G (fx_fact c.parts.1.1 3 rfl)
  r_NAMES := fun F R => tup_rel (fx_tup c.parts.1.1 1 rfl) rfl
  m_LOOKS := glo_ok X G (fx_fact c.parts.1.1 4 rfl)
  r_LOOKS := fun F R => tup_rel (fx_tup c.parts.1.1 2 rfl) rfl
  m_JOINED := glo_ok X G (fx_fact c.parts.1.1 5 rfl)
  r_JOINED := fun F R => tup_rel (fx_tup c.parts.1.1 3 rfl) rfl
  m_LEAST_ITEMS := int_ok X G (fx_fact c.parts.1.1 6 rfl)
  m_NEGATION := str_ok X G (fx_fact c.parts.1.1 7 rfl)
  m_need_question := glo_ok X G (fx_fact c.parts.1.1 8 rfl)
  m_take_root := glo_ok X G (fx_fact c.parts.1.1 9 rfl)
  m_items_of := glo_ok X G (fx_fact c.parts.1.1 10 rfl)
  m_free_of := glo_ok X G (fx_fact c.parts.1.1 11 rfl)
  m_looks_of := glo_ok X G (fx_fact c.parts.1.1 12 rfl)
  m__law_pen := glo_ok X G (fx_fact c.parts.1.1 13 rfl)
  m__law_draw := glo_ok X G (fx_fact c.parts.1.1 14 rfl)
  m__law_one_of := glo_ok X G (fx_fact c.parts.1.1 15 rfl)
  m__law_letter := glo_ok X G (fx_fact c.parts.1.1 16 rfl)
  m__law_items := glo_ok X G (fx_fact c.parts.1.1 17 rfl)
  m__law_drawn := glo_ok X G (fx_fact c.parts.1.1 18 rfl)
  m__law_told := glo_ok X G (fx_fact c.parts.1.1 19 rfl)
  m__law_is_told := glo_ok X G (fx_fact c.parts.1.1 20 rfl)
  m__law_joined := glo_ok X G (fx_fact c.parts.1.1 21 rfl)
  m__law_join_right := glo_ok X G (fx_fact c.parts.1.1 22 rfl)
  m__law_odd_right := glo_ok X G (fx_fact c.parts.1.1 23 rfl)
  m_ThinError := glo_ok X G (fx_fact c.parts.1.1 25 rfl)
  m_BadQuestion := glo_ok X G (fx_fact c.parts.1.1 26 rfl)
  m_TooMany := glo_ok X G (fx_fact c.parts.1.1 27 rfl)
  m_BadText := glo_ok X G (fx_fact c.parts.1.1 28 rfl)
  m_Scan := glo_ok X G (fx_fact c.parts.1.1 29 rfl)
  m_Question := glo_ok X G (fx_fact c.parts.1.1 30 rfl)
  b_isinstance := free_ok X G (fx_fact c.parts.1.1 31 rfl)
  b_str := free_ok X G (fx_fact c.parts.1.1 32 rfl)
  b_len := free_ok X G (fx_fact c.parts.1.1 33 rfl)
  b_list := free_ok X G (fx_fact c.parts.1.1 34 rfl)
  b_max := free_ok X G (fx_fact c.parts.1.1 35 rfl)
  b_set := free_ok X G (fx_fact c.parts.1.1 36 rfl)
  b_sorted := free_ok X G (fx_fact c.parts.1.1 37 rfl)
  b_tuple := free_ok X G (fx_fact c.parts.1.1 38 rfl)
  b_int := free_ok X G (fx_fact c.parts.1.1 39 rfl)
  b_abs := free_ok X G (fx_fact c.parts.1.1 40 rfl)
  b_repr := free_ok X G (fx_fact c.parts.1.1 41 rfl)
  b_range := free_ok X G (fx_fact c.parts.1.1 42 rfl)
  s1_Question := (stB_ok (fx_sta c.parts.1.1 0 rfl)).2.2.1
  s2_Question := (stB_ok (fx_sta c.parts.1.1 0 rfl)).2.2.2
  s3_Question_read := (stB_ok (fx_sta c.parts.1.1 0 rfl)).1
  s4_Question_read := (stB_ok (fx_sta c.parts.1.1 0 rfl)).2.1
theorem f0 {T : Wd} (c : Sy T) : FunD T.K e0.name e0.qual e0.params e0.body e0.scope (e0.dvs T.K) [] (pd.ad T.K 0) (fdOf T.K (pd.ad T.K 0)) := fund_of (c.def_ 0 (by rfl)) rfl
theorem f1 {T : Wd} (c : Sy T) : FunD T.K e1.name e1.qual e1.params e1.body e1.scope (e1.dvs T.K) [] (pd.ad T.K 1) (fdOf T.K (pd.ad T.K 1)) := fund_of (c.def_ 1 (by rfl)) rfl
theorem f2 {T : Wd} (c : Sy T) : FunD T.K e2.name e2.qual e2.params e2.body e2.scope (e2.dvs T.K) [] (pd.ad T.K 2) (fdOf T.K (pd.ad T.K 2)) := fund_of (c.def_ 2 (by rfl)) rfl
theorem f3 {T : Wd} (c : Sy T) : FunD T.K e3.name e3.qual e3.params e3.body e3.scope (e3.dvs T.K) [] (pd.ad T.K 3) (fdOf T.K (pd.ad T.K 3)) := fund_of (c.def_ 3 (by rfl)) rfl
theorem f4 {T : Wd} (c : Sy T) : FunD T.K e4.name e4.qual e4.params e4.body e4.scope (e4.dvs T.K) [] (pd.ad T.K 4) (fdOf T.K (pd.ad T.K 4)) := fund_of (c.def_ 4 (by rfl)) rfl
theorem f5 {T : Wd} (c : Sy T) : FunD T.K e5.name e5.qual e5.params e5.body e5.scope (e5.dvs T.K) [] (pd.ad T.K 5) (fdOf T.K (pd.ad T.K 5)) := fund_of (c.def_ 5 (by rfl)) rfl
theorem f6 {T : Wd} (c : Sy T) : FunD T.K e6.name e6.qual e6.params e6.body e6.scope (e6.dvs T.K) [] (pd.ad T.K 6) (fdOf T.K (pd.ad T.K 6)) := fund_of (c.def_ 6 (by rfl)) rfl
theorem f7 {T : Wd} (c : Sy T) : FunD T.K e7.name e7.qual e7.params e7.body e7.scope (e7.dvs T.K) [] (pd.ad T.K 7) (fdOf T.K (pd.ad T.K 7)) := fund_of (c.def_ 7 (by rfl)) rfl
theorem f8 {T : Wd} (c : Sy T) : FunD T.K e8.name e8.qual e8.params e8.body e8.scope (e8.dvs T.K) [] (pd.ad T.K 8) (fdOf T.K (pd.ad T.K 8)) := fund_of (c.def_ 8 (by rfl)) rfl
theorem f9 {T : Wd} (c : Sy T) : FunD T.K e9.name e9.qual e9.params e9.body e9.scope (e9.dvs T.K) [] (pd.ad T.K 9) (fdOf T.K (pd.ad T.K 9)) := fund_of (c.def_ 9 (by rfl)) rfl
theorem f10 {T : Wd} (c : Sy T) : FunD T.K e10.name e10.qual e10.params e10.body e10.scope (e10.dvs T.K) [] (pd.ad T.K 10) (fdOf T.K (pd.ad T.K 10)) := fund_of (c.def_ 10 (by rfl)) rfl
theorem f11 {T : Wd} (c : Sy T) : FunD T.K e11.name e11.qual e11.params e11.body e11.scope (e11.dvs T.K) [] (pd.ad T.K 11) (fdOf T.K (pd.ad T.K 11)) := fund_of (c.def_ 11 (by rfl)) rfl
theorem f12 {T : Wd} (c : Sy T) : FunD T.K e12.name e12.qual e12.params e12.body e12.scope (e12.dvs T.K) [] (pd.ad T.K 12) (fdOf T.K (pd.ad T.K 12)) := fund_of (c.def_ 12 (by rfl)) rfl
theorem f13 {T : Wd} (c : Sy T) : FunD T.K e13.name e13.qual e13.params e13.body e13.scope (e13.dvs T.K) [] (pd.ad T.K 13) (fdOf T.K (pd.ad T.K 13)) := fund_of (c.def_ 13 (by rfl)) rfl
theorem f14 {T : Wd} (c : Sy T) : FunD T.K e14.name e14.qual e14.params e14.body e14.scope (e14.dvs T.K) [] (pd.ad T.K 14) (fdOf T.K (pd.ad T.K 14)) := fund_of (c.def_ 14 (by rfl)) rfl
theorem f15 {T : Wd} (c : Sy T) : FunD T.K e15.name e15.qual e15.params e15.body e15.scope (e15.dvs T.K) [] (pd.ad T.K 15) (fdOf T.K (pd.ad T.K 15)) := fund_of (c.def_ 15 (by rfl)) rfl
theorem f16 {T : Wd} (c : Sy T) : FunD T.K e16.name e16.qual e16.params e16.body e16.scope (e16.dvs T.K) [] (pd.ad T.K 16) (fdOf T.K (pd.ad T.K 16)) := fund_of (c.def_ 16 (by rfl)) rfl
theorem f17 {T : Wd} (c : Sy T) : FunD T.K e17.name e17.qual e17.params e17.body e17.scope (e17.dvs T.K) [] (pd.ad T.K 17) (fdOf T.K (pd.ad T.K 17)) := fund_of (c.def_ 17 (by rfl)) rfl
theorem f18 {T : Wd} (c : Sy T) : FunD T.K e18.name e18.qual e18.params e18.body e18.scope (e18.dvs T.K) [] (pd.ad T.K 18) (fdOf T.K (pd.ad T.K 18)) := fund_of (c.def_ 18 (by rfl)) rfl
theorem f19 {T : Wd} (c : Sy T) : FunD T.K e19.name e19.qual e19.params e19.body e19.scope (e19.dvs T.K) [] (pd.ad T.K 19) (fdOf T.K (pd.ad T.K 19)) := fund_of (c.def_ 19 (by rfl)) rfl
theorem f20 {T : Wd} (c : Sy T) : FunD T.K e20.name e20.qual e20.params e20.body e20.scope (e20.dvs T.K) [] (pd.ad T.K 20) (fdOf T.K (pd.ad T.K 20)) := fund_of (c.def_ 20 (by rfl)) rfl
theorem f21 {T : Wd} (c : Sy T) : FunD T.K e21.name e21.qual e21.params e21.body e21.scope (e21.dvs T.K) [] (pd.ad T.K 21) (fdOf T.K (pd.ad T.K 21)) := fund_of (c.def_ 21 (by rfl)) rfl
theorem f22 {T : Wd} (c : Sy T) : FunD T.K e22.name e22.qual e22.params e22.body e22.scope (e22.dvs T.K) [] (pd.ad T.K 22) (fdOf T.K (pd.ad T.K 22)) := fund_of (c.def_ 22 (by rfl)) rfl
theorem f23 {T : Wd} (c : Sy T) : FunD T.K e23.name e23.qual e23.params e23.body e23.scope (e23.dvs T.K) [] (pd.ad T.K 23) (fdOf T.K (pd.ad T.K 23)) := fund_of (c.def_ 23 (by rfl)) rfl
theorem f24 {T : Wd} (c : Sy T) : FunD T.K e24.name e24.qual e24.params e24.body e24.scope (e24.dvs T.K) [] (pd.ad T.K 24) (fdOf T.K (pd.ad T.K 24)) := fund_of (c.def_ 24 (by rfl)) rfl
theorem f25 {T : Wd} (c : Sy T) : FunD T.K e25.name e25.qual e25.params e25.body e25.scope (e25.dvs T.K) [] (pd.ad T.K 25) (fdOf T.K (pd.ad T.K 25)) := fund_of (c.def_ 25 (by rfl)) rfl
theorem f26 {T : Wd} (c : Sy T) : FunD T.K e26.name e26.qual e26.params e26.body e26.scope (e26.dvs T.K) [] (pd.ad T.K 26) (fdOf T.K (pd.ad T.K 26)) := fund_of (c.def_ 26 (by rfl)) rfl
theorem f27 {T : Wd} (c : Sy T) : FunD T.K e27.name e27.qual e27.params e27.body e27.scope (e27.dvs T.K) [] (pd.ad T.K 27) (fdOf T.K (pd.ad T.K 27)) := fund_of (c.def_ 27 (by rfl)) rfl
theorem f28 {T : Wd} (c : Sy T) : FunD T.K e28.name e28.qual e28.params e28.body e28.scope (e28.dvs T.K) [] (pd.ad T.K 28) (fdOf T.K (pd.ad T.K 28)) := fund_of (c.def_ 28 (by rfl)) rfl
theorem f29 {T : Wd} (c : Sy T) : FunD T.K e29.name e29.qual e29.params e29.body e29.scope (e29.dvs T.K) [] (pd.ad T.K 29) (fdOf T.K (pd.ad T.K 29)) := fund_of (c.def_ 29 (by rfl)) rfl
theorem f30 {T : Wd} (c : Sy T) : FunD T.K e30.name e30.qual e30.params e30.body e30.scope (e30.dvs T.K) [] (pd.ad T.K 30) (fdOf T.K (pd.ad T.K 30)) := fund_of (c.def_ 30 (by rfl)) rfl
def keepF (T : Wd) (f : Nat) (_ : Df) : Prop := PySem.W.keepIn T.K (.ref (pd.ad T.K f)) = true ∧ Binds T.K (fdOf T.K (pd.ad T.K f)) ((pd.pns[f]?).getD []) []
theorem k0 {T : Wd} (c : Sy T) : keepF T 0 d0 := ⟨(f0 c).kp, FunD.bindsN (ps := ["self", "text"]) (f0 c) fun _ _ _ _ _ _ us hl => match us, hl with | [_, _], _ => rfl⟩
theorem k1 {T : Wd} (c : Sy T) : keepF T 1 d1 := ⟨(f1 c).kp, FunD.bindsN (ps := ["self"]) (f1 c) fun _ _ _ _ _ _ us hl => match us, hl with | [_], _ => rfl⟩
theorem k2 {T : Wd} (c : Sy T) : keepF T 2 d2 := ⟨(f2 c).kp, FunD.bindsN (ps := ["self"]) (f2 c) fun _ _ _ _ _ _ us hl => match us, hl with | [_], _ => rfl⟩
theorem k3 {T : Wd} (c : Sy T) : keepF T 3 d3 := ⟨(f3 c).kp, FunD.bindsN (ps := ["self"]) (f3 c) fun _ _ _ _ _ _ us hl => match us, hl with | [_], _ => rfl⟩
theorem k4 {T : Wd} (c : Sy T) : keepF T 4 d4 := ⟨(f4 c).kp, FunD.bindsN (ps := ["self"]) (f4 c) fun _ _ _ _ _ _ us hl => match us, hl with | [_], _ => rfl⟩
theorem k5 {T : Wd} (c : Sy T) : keepF T 5 d5 := ⟨(f5 c).kp, FunD.bindsN (ps := ["self", "wanted"]) (f5 c) fun _ _ _ _ _ _ us hl => match us, hl with | [_, _], _ => rfl⟩
theorem k6 {T : Wd} (c : Sy T) : keepF T 6 d6 := ⟨(f6 c).kp, FunD.bindsN (ps := ["self"]) (f6 c) fun _ _ _ _ _ _ us hl => match us, hl with | [_], _ => rfl⟩
theorem k7 {T : Wd} (c : Sy T) : keepF T 7 d7 := ⟨(f7 c).kp, bindsD (ps := ["value", "part"]) (f7 c) (by simp [e7, DefX.dvs]) fun _ _ _ _ _ _ _ us its h1 h2 => match us, h1, its, h2 with | [_, _], _, [_], _ => ⟨_, rfl, rfl⟩⟩
theorem k8 {T : Wd} (c : Sy T) : keepF T 8 d8 := ⟨(f8 c).kp, FunD.bindsN (ps := ["scan", "behind"]) (f8 c) fun _ _ _ _ _ _ us hl => match us, hl with | [_, _], _ => rfl⟩
theorem k9 {T : Wd} (c : Sy T) : keepF T 9 d9 := ⟨(f9 c).kp, FunD.bindsN (ps := ["root"]) (f9 c) fun _ _ _ _ _ _ us hl => match us, hl with | [_], _ => rfl⟩
theorem k10 {T : Wd} (c : Sy T) : keepF T 10 d10 := ⟨(f10 c).kp, FunD.bindsN (ps := ["root"]) (f10 c) fun _ _ _ _ _ _ us hl => match us, hl with | [_], _ => rfl⟩
theorem k11 {T : Wd} (c : Sy T) : keepF T 11 d11 := ⟨(f11 c).kp, FunD.bindsN (ps := ["root"]) (f11 c) fun _ _ _ _ _ _ us hl => match us, hl with | [_], _ => rfl⟩
theorem k12 {T : Wd} (c : Sy T) : keepF T 12 d12 := ⟨(f12 c).kp, FunD.bindsN (ps := ["self", "root"]) (f12 c) fun _ _ _ _ _ _ us hl => match us, hl with | [_, _], _ => rfl⟩
theorem k13 {T : Wd} (c : Sy T) : keepF T 13 d13 := ⟨(f13 c).kp, FunD.bindsN (ps := ["text"]) (f13 c) fun _ _ _ _ _ _ us hl => match us, hl with | [_], _ => rfl⟩
theorem k14 {T : Wd} (c : Sy T) : keepF T 14 d14 := ⟨(f14 c).kp, FunD.bindsN (ps := ["self"]) (f14 c) fun _ _ _ _ _ _ us hl => match us, hl with | [_], _ => rfl⟩
theorem k15 {T : Wd} (c : Sy T) : keepF T 15 d15 := ⟨(f15 c).kp, FunD.bindsN (ps := ["self", "other"]) (f15 c) fun _ _ _ _ _ _ us hl => match us, hl with | [_, _], _ => rfl⟩
theorem k16 {T : Wd} (c : Sy T) : keepF T 16 d16 := ⟨(f16 c).kp, FunD.bindsN (ps := ["self", "other"]) (f16 c) fun _ _ _ _ _ _ us hl => match us, hl with | [_, _], _ => rfl⟩
theorem k17 {T : Wd} (c : Sy T) : keepF T 17 d17 := ⟨(f17 c).kp, FunD.bindsN (ps := ["self", "other"]) (f17 c) fun _ _ _ _ _ _ us hl => match us, hl with | [_, _], _ => rfl⟩
theorem k18 {T : Wd} (c : Sy T) : keepF T 18 d18 := ⟨(f18 c).kp, FunD.bindsN (ps := ["self"]) (f18 c) fun _ _ _ _ _ _ us hl => match us, hl with | [_], _ => rfl⟩
theorem k19 {T : Wd} (c : Sy T) : keepF T 19 d19 := ⟨(f19 c).kp, FunD.bindsN (ps := ["_law_script"]) (f19 c) fun _ _ _ _ _ _ us hl => match us, hl with | [_], _ => rfl⟩
theorem k20 {T : Wd} (c : Sy T) : keepF T 20 d20 := ⟨(f20 c).kp, FunD.bindsN (ps := ["_law_pen_here", "_law_many"]) (f20 c) fun _ _ _ _ _ _ us hl => match us, hl with | [_, _], _ => rfl⟩
theorem k21 {T : Wd} (c : Sy T) : keepF T 21 d21 := ⟨(f21 c).kp, FunD.bindsN (ps := ["_law_pen_here", "_law_some"]) (f21 c) fun _ _ _ _ _ _ us hl => match us, hl with | [_, _], _ => rfl⟩
theorem k22 {T : Wd} (c : Sy T) : keepF T 22 d22 := ⟨(f22 c).kp, FunD.bindsN (ps := ["_law_pen_here"]) (f22 c) fun _ _ _ _ _ _ us hl => match us, hl with | [_], _ => rfl⟩
theorem k23 {T : Wd} (c : Sy T) : keepF T 23 d23 := ⟨(f23 c).kp, FunD.bindsN (ps := ["_law_pen_here", "_law_room", "_law_looks"]) (f23 c) fun _ _ _ _ _ _ us hl => match us, hl with | [_, _, _], _ => rfl⟩
theorem k24 {T : Wd} (c : Sy T) : keepF T 24 d24 := ⟨(f24 c).kp, FunD.bindsN (ps := ["_law_pen_here"]) (f24 c) fun _ _ _ _ _ _ us hl => match us, hl with | [_], _ => rfl⟩
theorem k25 {T : Wd} (c : Sy T) : keepF T 25 d25 := ⟨(f25 c).kp, FunD.bindsN (ps := ["_law_items_here"]) (f25 c) fun _ _ _ _ _ _ us hl => match us, hl with | [_], _ => rfl⟩
theorem k26 {T : Wd} (c : Sy T) : keepF T 26 d26 := ⟨(f26 c).kp, FunD.bindsN (ps := ["_law_question", "_law_items_here"]) (f26 c) fun _ _ _ _ _ _ us hl => match us, hl with | [_, _], _ => rfl⟩
theorem k27 {T : Wd} (c : Sy T) : keepF T 27 d27 := ⟨(f27 c).kp, FunD.bindsN (ps := ["_law_question", "_law_word", "_law_other"]) (f27 c) fun _ _ _ _ _ _ us hl => match us, hl with | [_, _, _], _ => rfl⟩
theorem k28 {T : Wd} (c : Sy T) : keepF T 28 d28 := ⟨(f28 c).kp, FunD.bindsN (ps := ["_law_question", "_law_items_here", "_law_word", "_law_other", "_law_its"]) (f28 c) fun _ _ _ _ _ _ us hl => match us, hl with | [_, _, _, _, _], _ => rfl⟩
theorem k29 {T : Wd} (c : Sy T) : keepF T 29 d29 := ⟨(f29 c).kp, FunD.bindsN (ps := ["_law_pen_here", "_law_question", "_law_items_here"]) (f29 c) fun _ _ _ _ _ _ us hl => match us, hl with | [_, _, _], _ => rfl⟩
theorem k30 {T : Wd} (c : Sy T) : keepF T 30 d30 := ⟨(f30 c).kp, FunD.bindsN (ps := ["_law_script"]) (f30 c) fun _ _ _ _ _ _ us hl => match us, hl with | [_], _ => rfl⟩
theorem kAll {T : Wd} (c : Sy T) : AllF (keepF T) 0 pd.dfs := ⟨k0 c, k1 c, k2 c, k3 c, k4 c, k5 c, k6 c, k7 c, k8 c, k9 c, k10 c, k11 c, k12 c, k13 c, k14 c, k15 c, k16 c, k17 c, k18 c, k19 c, k20 c, k21 c, k22 c, k23 c, k24 c, k25 c, k26 c, k27 c, k28 c, k29 c, k30 c, trivial⟩
theorem cf_of {T : Wd} (c : Sy T) : ClF (pd.G T.K) T.K := clF_of (by kernel_rfl) (fx_says c.parts.1.1) fun f x h => (kAll c).at h
theorem kb_of {T : Wd} (c : Sy T) : Kb T where
  none_ := trivial
  kb_13_0_text := kbd_app (f := 13) (fun s us ws X h1 h2 => kbApp (ps := ["text"]) (f13 c) s us ws fun _ _ _ _ _ _ => match us, h1, ws, h2 with | [], _, [_], _ => rfl) (fun d hd as zs h1 h2 => by cases hd; exact match as, h1, zs, h2 with | [], _, [_], _ => rfl)
  mk_ahead_0_ := meth_all (d := pd) (mem_cons (fun e => absurd e (by decide)) (mem_cons (fun _ => ⟨kbd_p (k2 c).2 (d := d2) rfl rfl rfl, _, rfl⟩) (mem_cons (fun e => absurd e (by decide)) (mem_cons (fun e => absurd e (by decide)) (mem_cons (fun e => absurd e (by decide)) (mem_cons (fun e => absurd e (by decide)) (mem_cons (fun e => absurd e (by decide)) (mem_cons (fun e => absurd e (by decide)) (mem_cons (fun e => absurd e (by decide)) (mem_nil))))))))))
  mk_both_0_other := meth_all (d := pd) (mem_cons (fun e => absurd e (by decide)) (mem_cons (fun e => absurd e (by decide)) (mem_cons (fun e => absurd e (by decide)) (mem_cons (fun e => absurd e (by decide)) (mem_cons (fun e => absurd e (by decide)) (mem_cons (fun e => absurd e (by decide)) (mem_cons (fun e => absurd e (by decide)) (mem_cons (fun _ => ⟨kbd_app (f := 15) (fun s us ws X h1 h2 => kbApp (ps := ["self", "other"]) (f15 c) s us ws fun _ _ _ _ _ _ => match us, h1, ws, h2 with | [_], _, [_], _ => rfl) (fun d hd as zs h1 h2 => by cases hd; exact match as, h1, zs, h2 with | [_], _, [_], _ => rfl), _, rfl⟩) (mem_cons (fun e => absurd e (by decide)) (mem_nil))))))))))
  mk_either_0_other := meth_all (d := pd) (mem_cons (fun e => absurd e (by decide)) (mem_cons (fun e => absurd e (by decide)) (mem_cons (fun e => absurd e (by decide)) (mem_cons (fun e => absurd e (by decide)) (mem_cons (fun e => absurd e (by decide)) (mem_cons (fun e => absurd e (by decide)) (mem_cons (fun e => absurd e (by decide)) (mem_cons (fun e => absurd e (by decide)) (mem_cons (fun _ => ⟨kbd_app (f := 16) (fun s us ws X h1 h2 => kbApp (ps := ["self", "other"]) (f16 c) s us ws fun _ _ _ _ _ _ => match us, h1, ws, h2 with | [_], _, [_], _ => rfl) (fun d hd as zs h1 h2 => by cases hd; exact match as, h1, zs, h2 with | [_], _, [_], _ => rfl), _, rfl⟩) (mem_nil))))))))))
  mk_finish_0_ := meth_all (d := pd) (mem_cons (fun e => absurd e (by decide)) (mem_cons (fun e => absurd e (by decide)) (mem_cons (fun e => absurd e (by decide)) (mem_cons (fun e => absurd e (by decide)) (mem_cons (fun e => absurd e (by decide)) (mem_cons (fun _ => ⟨kbd_p (k6 c).2 (d := d6) rfl rfl rfl, _, rfl⟩) (mem_cons (fun e => absurd e (by decide)) (mem_cons (fun e => absurd e (by decide)) (mem_cons (fun e => absurd e (by decide)) (mem_nil))))))))))
  mk_is_done_0_ := meth_all (d := pd) (mem_cons (fun _ => ⟨kbd_p (k1 c).2 (d := d1) rfl rfl rfl, _, rfl⟩) (mem_cons (fun e => absurd e (by decide)) (mem_cons (fun e => absurd e (by decide)) (mem_cons (fun e => absurd e (by decide)) (mem_cons (fun e => absurd e (by decide)) (mem_cons (fun e => absurd e (by decide)) (mem_cons (fun e => absurd e (by decide)) (mem_cons (fun e => absurd e (by decide)) (mem_cons (fun e => absurd e (by decide)) (mem_nil))))))))))
  mk_negated_0_ := meth_all (d := pd) (mem_cons (fun e => absurd e (by decide)) (mem_cons (fun e => absurd e (by decide)) (mem_cons (fun e => absurd e (by decide)) (mem_cons (fun e => absurd e (by decide)) (mem_cons (fun e => absurd e (by decide)) (mem_cons (fun e => absurd e (by decide)) (mem_cons (fun _ => ⟨kbd_p (k14 c).2 (d := d14) rfl rfl rfl, _, rfl⟩) (mem_cons (fun e => absurd e (by decide)) (mem_cons (fun e => absurd e (by decide)) (mem_nil))))))))))
  mk_refuse_0_ := meth_all (d := pd) (mem_cons (fun e => absurd e (by decide)) (mem_cons (fun e => absurd e (by decide)) (mem_cons (fun _ => ⟨kbd_p (k3 c).2 (d := d3) rfl rfl rfl, _, rfl⟩) (mem_cons (fun e => absurd e (by decide)) (mem_cons (fun e => absurd e (by decide)) (mem_cons (fun e => absurd e (by decide)) (mem_cons (fun e => absurd e (by decide)) (mem_cons (fun e => absurd e (by decide)) (mem_cons (fun e => absurd e (by decide)) (mem_nil))))))))))
  mk_take_0_ := meth_all (d := pd) (mem_cons (fun e => absurd e (by decide)) (mem_cons (fun e => absurd e (by decide)) (mem_cons (fun e => absurd e (by decide)) (mem_cons (fun _ => ⟨kbd_p (k4 c).2 (d := d4) rfl rfl rfl, _, rfl⟩) (mem_cons (fun e => absurd e (by decide)) (mem_cons (fun e => absurd e (by decide)) (mem_cons (fun e => absurd e (by decide)) (mem_cons (fun e => absurd e (by decide)) (mem_cons (fun e => absurd e (by decide)) (mem_nil))))))))))
  mk_take_one_of_1_ := meth_all (d := pd) (mem_cons (fun e => absurd e (by decide)) (mem_cons (fun e => absurd e (by decide)) (mem_cons (fun e => absurd e (by decide)) (mem_cons (fun e => absurd e (by decide)) (mem_cons (fun _ => ⟨kbd_p (k5 c).2 (d := d5) rfl rfl rfl, _, rfl⟩) (mem_cons (fun e => absurd e (by decide)) (mem_cons (fun e => absurd e (by decide)) (mem_cons (fun e => absurd e (by decide)) (mem_cons (fun e => absurd e (by decide)) (mem_nil))))))))))
theorem xs0 : FnScope ["self", "part"] ["self", "part"] (defScope (inClass (top 3) 0)) := ⟨rfl, rfl, rfl, by decide +kernel, rfl, by decide +kernel, by decide +kernel⟩
theorem xf0 {T : Wd} (c : Sy T) : FunD T.K x0.name x0.qual x0.params x0.body x0.scope [] [] (atOf T.K x0.at_) (fdOf T.K (atOf T.K x0.at_)) := fund_of (c.def_ 31 (by rfl)) rfl
theorem xb0 {T : Wd} (c : Sy T) : Binds T.K (fdOf T.K (atOf T.K x0.at_)) ["self", "part"] [] := FunD.bindsN (xf0 c) fun _ _ _ _ _ _ us hl => match us, hl with | [_, _], _ => rfl
theorem xi0 {T : Wd} (c : Sy T) : FnOk T.P T.w T.K T.mg T.base (L2.CX T.P T.w) 1 (atOf T.K x0.at_) (fdOf T.K (atOf T.K x0.at_)) ["self", "part"] (spXI T.K ["part"]) := xinit1 (xf0 c) xs0 rfl rfl rfl
theorem xs1 : FnScope ["self", "what", "most"] ["self", "what", "most"] (defScope (inClass (top 4) 0)) := ⟨rfl, rfl, rfl, by decide +kernel, rfl, by decide +kernel, by decide +kernel⟩
theorem xf1 {T : Wd} (c : Sy T) : FunD T.K x1.name x1.qual x1.params x1.body x1.scope [] [] (atOf T.K x1.at_) (fdOf T.K (atOf T.K x1.at_)) := fund_of (c.def_ 32 (by rfl)) rfl
theorem xb1 {T : Wd} (c : Sy T) : Binds T.K (fdOf T.K (atOf T.K x1.at_)) ["self", "what", "most"] [] := FunD.bindsN (xf1 c) fun _ _ _ _ _ _ us hl => match us, hl with | [_, _, _], _ => rfl
theorem xi1 {T : Wd} (c : Sy T) : FnOk T.P T.w T.K T.mg T.base (L2.CX T.P T.w) 1 (atOf T.K x1.at_) (fdOf T.K (atOf T.K x1.at_)) ["self", "what", "most"] (spXI T.K ["what", "most"]) := xinit2 (xf1 c) xs1 rfl rfl rfl rfl
theorem xs2 : FnScope ["self", "line", "item"] ["self", "line", "item"] (defScope (inClass (top 5) 0)) := ⟨rfl, rfl, rfl, by decide +kernel, rfl, by decide +kernel, by decide +kernel⟩
theorem xf2 {T : Wd} (c : Sy T) : FunD T.K x2.name x2.qual x2.params x2.body x2.scope [] [] (atOf T.K x2.at_) (fdOf T.K (atOf T.K x2.at_)) := fund_of (c.def_ 33 (by rfl)) rfl
theorem xb2 {T : Wd} (c : Sy T) : Binds T.K (fdOf T.K (atOf T.K x2.at_)) ["self", "line", "item"] [] := FunD.bindsN (xf2 c) fun _ _ _ _ _ _ us hl => match us, hl with | [_, _, _], _ => rfl
theorem xi2 {T : Wd} (c : Sy T) : FnOk T.P T.w T.K T.mg T.base (L2.CX T.P T.w) 1 (atOf T.K x2.at_) (fdOf T.K (atOf T.K x2.at_)) ["self", "line", "item"] (spXI T.K ["line", "item"]) := xinit2 (xf2 c) xs2 rfl rfl rfl rfl
theorem xf_of {T : Wd} (c : Sy T) : ∀ a fs, (pd.G T.K).P.exf a = some fs → ∀ X : Cx, X.prog = T.P → X.w = T.w → X.K = T.K → X.mg = T.mg → X.base = T.base → XfOk (pd.G T.K) X a fs :=
  xf_all (d := pd) (mem_cons (xfok_of (d := pd) (c := 1) (fs := [11]) (fx_exc c.parts.1.1 0 rfl).1 (fx_exc c.parts.1.1 0 rfl).2.1 (xi0 c) (xb0 c) (fx_exc c.parts.1.1 0 rfl).2.2 (by decide)) (mem_cons (xfok_of (d := pd) (c := 2) (fs := [17, 18]) (fx_exc c.parts.1.1 1 rfl).1 (fx_exc c.parts.1.1 1 rfl).2.1 (xi1 c) (xb1 c) (fx_exc c.parts.1.1 1 rfl).2.2 (by decide)) (mem_cons (xfok_of (d := pd) (c := 3) (fs := [0, 1]) (fx_exc c.parts.1.1 2 rfl).1 (fx_exc c.parts.1.1 2 rfl).2.1 (xi2 c) (xb2 c) (fx_exc c.parts.1.1 2 rfl).2.2 (by decide)) (mem_nil))))
theorem pl : AllF (fun f d => ((pd.pns[f]?).getD []).length = d.ps.length) 0 pd.dfs := ⟨rfl, rfl, rfl, rfl, rfl, rfl, rfl, rfl, rfl, rfl, rfl, rfl, rfl, rfl, rfl, rfl, rfl, rfl, rfl, rfl, rfl, rfl, rfl, rfl, rfl, rfl, rfl, rfl, rfl, rfl, rfl, trivial⟩
abbrev okF (T : Wd) (n f : Nat) (_ : Df) : Prop := FnOk T.P T.w T.K T.mg T.base (L2.CX T.P T.w) (3 * (n + 1)) ((pd.G T.K).fa f) ((pd.G T.K).fd f) ((pd.G T.K).pn f) (spEv (pd.G T.K) ⟨T.P, T.w, T.K, (pd.G T.K).C, (pd.G T.K).nm⟩ (n + 1) f)
theorem o0 {T : Wd} {n : Nat} (al : AllN (pd.G T.K) T n) (M : Nm T) (c : Sy T) : okF T n 0 d0 := def_ok T al (f := 0) (d := d0) rfl (f0 c) sc0 (by decide) (by decide) fun cdv A outer s H E C => w0 M (kb_of c) (cf_of c) C
theorem o1 {T : Wd} {n : Nat} (al : AllN (pd.G T.K) T n) (M : Nm T) (c : Sy T) : okF T n 1 d1 := def_ok T al (f := 1) (d := d1) rfl (f1 c) sc1 (by decide) (by decide) fun cdv A outer s H E C => w1 M (kb_of c) (cf_of c) C
theorem o2 {T : Wd} {n : Nat} (al : AllN (pd.G T.K) T n) (M : Nm T) (c : Sy T) : okF T n 2 d2 := def_ok T al (f := 2) (d := d2) rfl (f2 c) sc2 (by decide) (by decide) fun cdv A outer s H E C => w2 M (kb_of c) (cf_of c) C
theorem o3 {T : Wd} {n : Nat} (al : AllN (pd.G T.K) T n) (M : Nm T) (c : Sy T) : okF T n 3 d3 := def_ok T al (f := 3) (d := d3) rfl (f3 c) sc3 (by decide) (by decide) fun cdv A outer s H E C => w3 M (kb_of c) (cf_of c) C
theorem o4 {T : Wd} {n : Nat} (al : AllN (pd.G T.K) T n) (M : Nm T) (c : Sy T) : okF T n 4 d4 := def_ok T al (f := 4) (d := d4) rfl (f4 c) sc4 (by decide) (by decide) fun cdv A outer s H E C => w4 M (kb_of c) (cf_of c) C
theorem o5 {T : Wd} {n : Nat} (al : AllN (pd.G T.K) T n) (M : Nm T) (c : Sy T) : okF T n 5 d5 := def_ok T al (f := 5) (d := d5) rfl (f5 c) sc5 (by decide) (by decide) fun cdv A outer s H E C => w5 M (kb_of c) (cf_of c) C
theorem o6 {T : Wd} {n : Nat} (al : AllN (pd.G T.K) T n) (M : Nm T) (c : Sy T) : okF T n 6 d6 := def_ok T al (f := 6) (d := d6) rfl (f6 c) sc6 (by decide) (by decide) fun cdv A outer s H E C => w6 M (kb_of c) (cf_of c) C
theorem o7 {T : Wd} {n : Nat} (al : AllN (pd.G T.K) T n) (M : Nm T) (c : Sy T) : okF T n 7 d7 := def_ok T al (f := 7) (d := d7) rfl (f7 c) sc7 (by decide) (by decide) fun cdv A outer s H E C => w7 M (kb_of c) (cf_of c) C
theorem o8 {T : Wd} {n : Nat} (al : AllN (pd.G T.K) T n) (M : Nm T) (c : Sy T) : okF T n 8 d8 := def_ok T al (f := 8) (d := d8) rfl (f8 c) sc8 (by decide) (by decide) fun cdv A outer s H E C => w8 M (kb_of c) (cf_of c) C
theorem o9 {T : Wd} {n : Nat} (al : AllN (pd.G T.K) T n) (M : Nm T) (c : Sy T) : okF T n 9 d9 := def_ok T al (f := 9) (d := d9) rfl (f9 c) sc9 (by decide) (by decide) fun cdv A outer s H E C => w9 M (kb_of c) (cf_of c) C
theorem o10 {T : Wd} {n : Nat} (al : AllN (pd.G T.K) T n) (M : Nm T) (c : Sy T) : okF T n 10 d10 := def_ok T al (f := 10) (d := d10) rfl (f10 c) sc10 (by decide) (by decide) fun cdv A outer s H E C => w10 M (kb_of c) (cf_of c) C
theorem o11 {T : Wd} {n : Nat} (al : AllN (pd.G T.K) T n) (M : Nm T) (c : Sy T) : okF T n 11 d11 := def_ok T al (f := 11) (d := d11) rfl (f11 c) sc11 (by decide) (by decide) fun cdv A outer s H E C => w11 M (kb_of c) (cf_of c) C
theorem o12 {T : Wd} {n : Nat} (al : AllN (pd.G T.K) T n) (M : Nm T) (c : Sy T) : okF T n 12 d12 := def_ok T al (f := 12) (d := d12) rfl (f12 c) sc12 (by decide) (by decide) fun cdv A outer s H E C => w12 M (kb_of c) (cf_of c) C
theorem o13 {T : Wd} {n : Nat} (al : AllN (pd.G T.K) T n) (M : Nm T) (c : Sy T) : okF T n 13 d13 := def_ok T al (f := 13) (d := d13) rfl (f13 c) sc13 (by decide) (by decide) fun cdv A outer s H E C => w13 M (kb_of c) (cf_of c) C
theorem o14 {T : Wd} {n : Nat} (al : AllN (pd.G T.K) T n) (M : Nm T) (c : Sy T) : okF T n 14 d14 := def_ok T al (f := 14) (d := d14) rfl (f14 c) sc14 (by decide) (by decide) fun cdv A outer s H E C => w14 M (kb_of c) (cf_of c) C
theorem o15 {T : Wd} {n : Nat} (al : AllN (pd.G T.K) T n) (M : Nm T) (c : Sy T) : okF T n 15 d15 := def_ok T al (f := 15) (d := d15) rfl (f15 c) sc15 (by decide) (by decide) fun cdv A outer s H E C => w15 M (kb_of c) (cf_of c) C
theorem o16 {T : Wd} {n : Nat} (al : AllN (pd.G T.K) T n) (M : Nm T) (c : Sy T) : okF T n 16 d16 := def_ok T al (f := 16) (d := d16) rfl (f16 c) sc16 (by decide) (by decide) fun cdv A outer s H E C => w16 M (kb_of c) (cf_of c) C
theorem o17 {T : Wd} {n : Nat} (al : AllN (pd.G T.K) T n) (M : Nm T) (c : Sy T) : okF T n 17 d17 := def_ok T al (f := 17) (d := d17) rfl (f17 c) sc17 (by decide) (by decide) fun cdv A outer s H E C => w17 M (kb_of c) (cf_of c) C
theorem o18 {T : Wd} {n : Nat} (al : AllN (pd.G T.K) T n) (M : Nm T) (c : Sy T) : okF T n 18 d18 := def_ok T al (f := 18) (d := d18) rfl (f18 c) sc18 (by decide) (by decide) fun cdv A outer s H E C => w18 M (kb_of c) (cf_of c) C
theorem o19 {T : Wd} {n : Nat} (al : AllN (pd.G T.K) T n) (M : Nm T) (c : Sy T) : okF T n 19 d19 := def_ok T al (f := 19) (d := d19) rfl (f19 c) sc19 (by decide) (by decide) fun cdv A outer s H E C => w19 M (kb_of c) (cf_of c) C
theorem o20 {T : Wd} {n : Nat} (al : AllN (pd.G T.K) T n) (M : Nm T) (c : Sy T) : okF T n 20 d20 := def_ok T al (f := 20) (d := d20) rfl (f20 c) sc20 (by decide) (by decide) fun cdv A outer s H E C => w20 M (kb_of c) (cf_of c) C
theorem o21 {T : Wd} {n : Nat} (al : AllN (pd.G T.K) T n) (M : Nm T) (c : Sy T) : okF T n 21 d21 := def_ok T al (f := 21) (d := d21) rfl (f21 c) sc21 (by decide) (by decide) fun cdv A outer s H E C => w21 M (kb_of c) (cf_of c) C
theorem o22 {T : Wd} {n : Nat} (al : AllN (pd.G T.K) T n) (M : Nm T) (c : Sy T) : okF T n 22 d22 := def_ok T al (f := 22) (d := d22) rfl (f22 c) sc22 (by decide) (by decide) fun cdv A outer s H E C => w22 M (kb_of c) (cf_of c) C
theorem o23 {T : Wd} {n : Nat} (al : AllN (pd.G T.K) T n) (M : Nm T) (c : Sy T) : okF T n 23 d23 := def_ok T al (f := 23) (d := d23) rfl (f23 c) sc23 (by decide) (by decide) fun cdv A outer s H E C => w23 M (kb_of c) (cf_of c) C
theorem o24 {T : Wd} {n : Nat} (al : AllN (pd.G T.K) T n) (M : Nm T) (c : Sy T) : okF T n 24 d24 := def_ok T al (f := 24) (d := d24) rfl (f24 c) sc24 (by decide) (by decide) fun cdv A outer s H E C => w24 M (kb_of c) (cf_of c) C
theorem o25 {T : Wd} {n : Nat} (al : AllN (pd.G T.K) T n) (M : Nm T) (c : Sy T) : okF T n 25 d25 := def_ok T al (f := 25) (d := d25) rfl (f25 c) sc25 (by decide) (by decide) fun cdv A outer s H E C => w25 M (kb_of c) (cf_of c) C
theorem o26 {T : Wd} {n : Nat} (al : AllN (pd.G T.K) T n) (M : Nm T) (c : Sy T) : okF T n 26 d26 := def_ok T al (f := 26) (d := d26) rfl (f26 c) sc26 (by decide) (by decide) fun cdv A outer s H E C => w26 M (kb_of c) (cf_of c) C
theorem o27 {T : Wd} {n : Nat} (al : AllN (pd.G T.K) T n) (M : Nm T) (c : Sy T) : okF T n 27 d27 := def_ok T al (f := 27) (d := d27) rfl (f27 c) sc27 (by decide) (by decide) fun cdv A outer s H E C => w27 M (kb_of c) (cf_of c) C
theorem o28 {T : Wd} {n : Nat} (al : AllN (pd.G T.K) T n) (M : Nm T) (c : Sy T) : okF T n 28 d28 := def_ok T al (f := 28) (d := d28) rfl (f28 c) sc28 (by decide) (by decide) fun cdv A outer s H E C => w28 M (kb_of c) (cf_of c) C
theorem o29 {T : Wd} {n : Nat} (al : AllN (pd.G T.K) T n) (M : Nm T) (c : Sy T) : okF T n 29 d29 := def_ok T al (f := 29) (d := d29) rfl (f29 c) sc29 (by decide) (by decide) fun cdv A outer s H E C => w29 M (kb_of c) (cf_of c) C
theorem o30 {T : Wd} {n : Nat} (al : AllN (pd.G T.K) T n) (M : Nm T) (c : Sy T) : okF T n 30 d30 := def_ok T al (f := 30) (d := d30) rfl (f30 c) sc30 (by decide) (by decide) fun cdv A outer s H E C => w30 M (kb_of c) (cf_of c) C
theorem oAll {T : Wd} {n : Nat} (al : AllN (pd.G T.K) T n) (M : Nm T) (c : Sy T) : AllF (okF T n) 0 pd.dfs := ⟨o0 al M c, o1 al M c, o2 al M c, o3 al M c, o4 al M c, o5 al M c, o6 al M c, o7 al M c, o8 al M c, o9 al M c, o10 al M c, o11 al M c, o12 al M c, o13 al M c, o14 al M c, o15 al M c, o16 al M c, o17 al M c, o18 al M c, o19 al M c, o20 al M c, o21 al M c, o22 al M c, o23 al M c, o24 al M c, o25 al M c, o26 al M c, o27 al M c, o28 al M c, o29 al M c, o30 al M c, trivial⟩
theorem allN {T : Wd} (M : Nm T) (c : Sy T) (n : Nat) : AllN (pd.G T.K) T n := all_ok T (all_zero T (xf_of c) fun f d h => pl.at h) (fun n al f d h => (oAll al M c).at h) n
abbrev R : PySem.W.OpenRow := PySem.W.OpenLaw.row PySem.Challenge.rw_thincoins_k52_questions_told_and_joined
abbrev hk : PySem.W.Hook := hookP 5 (fx.ok pd) fn tabs
def ob (s : PySem.W.SharedT) : AlP := obsPG 5 (fx.ok pd) fn tabs (HandSHeadRun.getT s)
theorem ob_eq (s : PySem.W.SharedT) : ob s = hk.obs s.abs := obsPG_eq (HandSHeadRun.getT_eq s)
def loose_0 : List PySem.Str := ["_wall", "__name__", "ThinError", "BadQuestion", "TooMany", "BadText", "__name__", "Scan", "__name__", "MOST_ITEMS", "LEAST_ITEMS", "NAMES", "PLAIN", "JOINED", "LOOKS", "NEGATION", "NEEDED", "need_question", "take_root", "items_of"]
def loose_1 : List PySem.Str := ["free_of", "looks_of", "Question", "__name__", "_law_pen", "_law_draw", "_law_one_of", "_law_letter", "_law_items", "_law_drawn", "_law_told", "_law_is_told", "_law_joined", "_law_join_right", "_law_odd_right"]
def loose : List PySem.Str := loose_0 ++ loose_1
theorem runF (w : World) : HandSHeadRun.RunEq R (PySem.W.view R.prog [35]) hk ob 4000 loose (w.withFollow "special-get-raises" false) := by
  intro os
  kernel_rfl
theorem runT (w : World) : HandSHeadRun.RunEq R (PySem.W.view R.prog [35]) hk ob 4000 loose (w.withFollow "special-get-raises" true) := by
  intro os
  kernel_rfl
theorem run_ (w : World) : HandSHeadRun.RunEq R (PySem.W.view R.prog [35]) hk ob 4000 loose w := PySem.W.byRow2 "special-get-raises" (P := fun w => HandSHeadRun.RunEq R (PySem.W.view R.prog [35]) hk ob 4000 loose w) runF runT w
theorem law_ok {T : Wd} (M : Nm T) (c : Sy T) (hp : ∀ ns : List Int, ns.length ≤ 63 → ∃ m, run pd.P 60 30 [.scr ns] [] = .ok (.bl true) m) : FnOk T.P T.w T.K T.mg T.base (L2.CX T.P T.w) (3 * 60) (pd.ad T.K 30) (fdOf T.K (pd.ad T.K 30)) ["_law_script"] (spLaw T.K) := law_of (allN M c 60) (f := 30) (x := d30) rfl rfl hp
theorem lb {T : Wd} (c : Sy T) (s : Shared) (us : List Value) (hl : us.length = 1) : BindsTo s (fdOf T.K (pd.ad T.K 30)) ⟨us, []⟩ ([("_law_script" : Str)].zip us) := FunD.bindsA (ps := ["_law_script"]) (f30 c) (fun _ _ _ _ _ _ us hl => match us, hl with | [_], _ => rfl) s us hl
theorem plain : ∀ ns : List Int, ns.length ≤ 63 → ∃ m, run pd.P 60 30 [.scr ns] [] = .ok (.bl true) m := law_w
end Lw
open PySem PySem.W PySem.Calls PyProof.Rows
theorem PySem.Challenge.cw_thincoins_k52_questions_told_and_joined_holds : PySem.Challenge.rw_thincoins_k52_questions_told_and_joined.Holds := by
  w_on; o_law
  refine HandSHeadRun.head_any (r := OpenLaw.row PySem.Challenge.rw_thincoins_k52_questions_told_and_joined) (q := view (OpenLaw.row PySem.Challenge.rw_thincoins_k52_questions_told_and_joined).prog [35]) (H := Lw.hk) (ob := Lw.ob) (M := 4000) (loose := Lw.loose) (d := HandSHeadRun.topDef (OpenLaw.row PySem.Challenge.rw_thincoins_k52_questions_told_and_joined).prog 35) (kwd := []) Lw.ob_eq
    (by kernel_rfl) (fun s => by kernel_rfl) Lw.run_ (by kernel_rfl) (by kernel_rfl) (by kernel_rfl) (by rfl) (by first | assumption | decide +kernel) (by decide +kernel) ⟨rfl, rfl, rfl, rfl, rfl, by decide +kernel⟩ ?hw ?hc
  case hw => w_witness2
  case hc =>
    refine Pv.walk_ofP (l := PySem.Challenge.rw_thincoins_k52_questions_told_and_joined) (n := 63) (k := 180) (x := "_law_script") (CX := fun w => L2.CX (PySem.Challenge.rw_thincoins_k52_questions_told_and_joined).prog w) rfl (by decide) (by kernel_rfl) ⟨rfl, by decide, by decide⟩ ?F (fun _ _ _ _ _ ⟨_, _, _, _, _, _, _, _, _, _, _, _, z⟩ => z)
    intro w mg fa h Y G hmg0
    obtain ⟨K, KX, c⟩ := Y
    have hmg : mg ("law" : PySem.Str) = some (.ref fa) := by
      have e : (HandSHeadRun.topDef (OpenLaw.row PySem.Challenge.rw_thincoins_k52_questions_told_and_joined).prog 35).name = ("law" : PySem.Str) := by kernel_rfl
      rw [← e]
      exact hmg0
    have e := hmg.symm.trans (He.glo_ok KX G (Pv.fx_fact c.parts.1.1 24 rfl))
    cases e
    exact ⟨K, _, Pv.spLaw K, KX, fun s v => Lw.lb (T := ⟨PySem.Challenge.rw_thincoins_k52_questions_told_and_joined.prog, w, K, mg, default⟩) c s [v] rfl, fun H a ns hl hS => ⟨a, ns, rfl, hl, hS, fun _ => rfl⟩, fun base hb gb => Lw.law_ok (T := ⟨PySem.Challenge.rw_thincoins_k52_questions_told_and_joined.prog, w, K, mg, base⟩) (Lw.nm_of hb gb c) c Lw.plain⟩
