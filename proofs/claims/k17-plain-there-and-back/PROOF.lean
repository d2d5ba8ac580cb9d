import PyProof.Rows.All
import Wide.All
import OpenK.AllK
import Wide.FinOn
import HandS.ForMost
import HandS.Defaults
import HandS.Flow
import HandS.Style
import HandS.TupAny
import HandS.IsInst
import HandS.StrMore
import HandS.ReplaceLit
import HandS.CallSlots
import HandS.Exc
import HandS.WordsExc
import HandS.TryOnly
import HandS.NoneIn
import HandS.Codes
import HandS.HeadHook1
import HandS.Head2
import HandS.HeadEnd
import HandS.HeadHook2
import HandS.HeadHook4
import HandS.ReplaceList
import KE.IntTextLaws
import HandS.Head0
import HandS.Head1
import PySem.Challenge.RW_endhold_k17_plain_there_and_back
set_option Elab.async false
set_option linter.all false
set_option maxRecDepth 100000
set_option maxHeartbeats 4000000
/-! The deep layer, 0: values, stores, the own terms, the evaluator (pure, computable). -/
namespace Deep
open PySem

inductive PV where
  | non | bool (b : Bool) | int (i : Int) | str (s : Str) | tup (xs : List PV) | ref (n : Nat)
  deriving Inhabited
mutual
def PV.dec : (a b : PV) → Decidable (a = b)
  | .non, .non => .isTrue rfl
  | .bool a, .bool b => if h : a = b then .isTrue (by rw [h]) else .isFalse fun e => h (PV.bool.inj e)
  | .int a, .int b => if h : a = b then .isTrue (by rw [h]) else .isFalse fun e => h (PV.int.inj e)
  | .str a, .str b => if h : a = b then .isTrue (by rw [h]) else .isFalse fun e => h (PV.str.inj e)
  | .ref a, .ref b => if h : a = b then .isTrue (by rw [h]) else .isFalse fun e => h (PV.ref.inj e)
  | .tup xs, .tup ys => match PV.decL xs ys with
    | .isTrue h => .isTrue (by rw [h])
    | .isFalse h => .isFalse fun e => h (PV.tup.inj e)
  | .non, .bool _ | .non, .int _ | .non, .str _ | .non, .tup _ | .non, .ref _ => .isFalse fun e => nomatch e
  | .bool _, .non | .bool _, .int _ | .bool _, .str _ | .bool _, .tup _ | .bool _, .ref _ => .isFalse fun e => nomatch e
  | .int _, .bool _ | .int _, .non | .int _, .str _ | .int _, .tup _ | .int _, .ref _ => .isFalse fun e => nomatch e
  | .str _, .bool _ | .str _, .int _ | .str _, .non | .str _, .tup _ | .str _, .ref _ => .isFalse fun e => nomatch e
  | .tup _, .bool _ | .tup _, .int _ | .tup _, .str _ | .tup _, .non | .tup _, .ref _ => .isFalse fun e => nomatch e
  | .ref _, .bool _ | .ref _, .int _ | .ref _, .str _ | .ref _, .tup _ | .ref _, .non => .isFalse fun e => nomatch e
def PV.decL : (a b : List PV) → Decidable (a = b)
  | [], [] => .isTrue rfl
  | [], _ :: _ => .isFalse fun e => nomatch e
  | _ :: _, [] => .isFalse fun e => nomatch e
  | x :: xs, y :: ys => match PV.dec x y, PV.decL xs ys with
    | .isTrue h, .isTrue g => .isTrue (by rw [h, g])
    | .isFalse h, _ => .isFalse fun e => h (List.cons.inj e).1
    | _, .isFalse h => .isFalse fun e => h (List.cons.inj e).2
end
instance : DecidableEq PV := PV.dec

mutual
def PV.under (n : Nat) : PV → Bool
  | .ref m => decide (m < n)
  | .tup xs => PV.underL n xs
  | _ => true
def PV.underL (n : Nat) : List PV → Bool
  | [] => true
  | x :: xs => x.under n && PV.underL n xs
end
mutual
def PV.pd : PV → Option PyData
  | .non => some .none
  | .bool b => some (.bool b)
  | .int i => some (.int i)
  | .str s => some (.str s)
  | .tup xs => (PV.pdL xs).map .tuple
  | .ref _ => none
def PV.pdL : List PV → Option (List PyData)
  | [] => some []
  | x :: xs => match x.pd, PV.pdL xs with
    | some d, some ds => some (d :: ds)
    | _, _ => none
end

/-- what stands in the store: a list, the script (read alone), a dict -/
inductive MO where
  | lst (xs : List PV) | ro (xs : List PV) | dict (kvs : List (PV × PV))
  deriving DecidableEq, Inhabited
abbrev Store := List MO
def MO.under (n : Nat) : MO → Bool
  | .lst xs | .ro xs => PV.underL n xs
  | .dict kvs => kvs.all fun p => p.1.under n && p.2.under n

/-- what an expression gives: a settled value, or a new list or dict that nobody else holds -/
inductive RV where
  | v (x : PV) | lst (xs : List PV) | dict (kvs : List (PV × PV))
  deriving DecidableEq, Inhabited
structure Exc where
  cls : Nat
  args : List PV
  deriving DecidableEq, Inhabited
inductive Res (α : Type) where
  | ok (a : α) (S : Store) | exc (x : Exc) (S : Store) | stuck
  deriving Inhabited
abbrev PEnv := List (Option PV)
inductive SR where
  | nx (env : PEnv) (S : Store) | rt (r : RV) (S : Store) | bk (env : PEnv) (S : Store) | ct (env : PEnv) (S : Store) | ex (x : Exc) (env : PEnv) (S : Store) | stuck
  deriving Inhabited

def Res.bind {α β : Type} (r : Res α) (k : α → Store → Res β) : Res β := match r with
  | .ok a S => k a S
  | .exc x S => .exc x S
  | .stuck => .stuck
def Res.of {α : Type} (o : Option α) (S : Store) : Res α := match o with
  | some a => .ok a S
  | none => .stuck
def Res.ofS {α : Type} (o : Option (α × Store)) : Res α := match o with
  | some (a, S) => .ok a S
  | none => .stuck

/-! ### lists as they lie -/
def settle : RV → Store → PV × Store
  | .v x, S => (x, S)
  | .lst xs, S => (.ref S.length, S ++ [.lst xs])
  | .dict kvs, S => (.ref S.length, S ++ [.dict kvs])
/-- a list that is read -/
def rdList : RV → Store → Option (List PV)
  | .v (.ref n), S => match S[n]? with
    | some (.lst xs) => some xs
    | some (.ro xs) => some xs
    | _ => none
  | .lst xs, _ => some xs
  | _, _ => none
/-- a list of the program's own -/
def myList : RV → Store → Option (List PV)
  | .v (.ref n), S => match S[n]? with
    | some (.lst xs) => some xs
    | _ => none
  | .lst xs, _ => some xs
  | _, _ => none
def rdDict : RV → Store → Option (List (PV × PV))
  | .v (.ref n), S => match S[n]? with
    | some (.dict kvs) => some kvs
    | _ => none
  | .dict kvs, _ => some kvs
  | _, _ => none

/-! ### operators -/
inductive BOp where | add | sub | mul | fdiv | mod | pow
inductive CO where | eq | ne | lt | le | gt | ge | mem | nmem | is | isnt
  deriving DecidableEq
inductive Bi where | len | int | str | tuple | list | bool | sum | all | any | ord
  deriving DecidableEq
inductive Me where | append | pop | find | join
  deriving DecidableEq

def rvPD : RV → Store → Option PyData
  | .v (.ref n), S => match S[n]? with
    | some (.lst xs) => (PV.pdL xs).map .list
    | some (.ro xs) => (PV.pdL xs).map .list
    | _ => none
  | .v x, _ => x.pd
  | .lst xs, _ => (PV.pdL xs).map .list
  | .dict _, _ => none
def eqRV (x y : RV) (S : Store) : Option Bool := match rvPD x S, rvPD y S with
  | some d, some e => if SeqAt.shaped d && SeqAt.shaped e then some (PyData.eqv d e) else none
  | _, _ => none
def inStr (x y : Str) : Bool := match x.cps.toList with
  | [c] => decide (c ∈ y.cps.toList)
  | _ => !(Builtin.Str.occurrences y x 0 y.length 1).isEmpty

def isRV : RV → RV → Option Bool
  | .v x, .v .non => some (decide (x = .non))
  | .v (.bool a), .v (.bool b) => some (decide (a = b))
  | .v .non, .v (.bool _) => some false
  | .v (.int _), .v (.bool _) => some false
  | .v (.str _), .v (.bool _) => some false
  | .v (.tup _), .v (.bool _) => some false
  | .v (.ref _), .v (.bool _) => some false
  | .lst _, .v .non => some false
  | .lst _, .v (.bool _) => some false
  | .dict _, .v .non => some false
  | .dict _, .v (.bool _) => some false
  | _, _ => none

/-- a flat thing, as list membership compares it -/
def flatP : PV → Bool
  | .non | .bool _ | .int _ | .str _ => true
  | _ => false
def rdSeq : RV → Store → Option (List PV)
  | .v (.tup xs), _ => some xs
  | r, S => rdList r S
def PV.fv : PV → L2.V
  | .bool b => .bl b
  | .int i => .int i
  | .str z => .str z
  | _ => .non
def memRV (x y : RV) (S : Store) : Option Bool := match x, y with
  | .v (.str a), .v (.str b) => some (inStr a b)
  | .v a, r => match rdSeq r S with
    | some ys => if flatP a && ys.all flatP then some (ys.any fun z => L2.eqV z.fv a.fv) else none
    | none => none
  | _, _ => none

def cmpRV (op : CO) (x y : RV) (S : Store) : Option Bool := match op with
  | .eq => match x, y with
    | .v (.str a), .v (.str b) => some (decide (a = b))
    | _, _ => eqRV x y S
  | .ne => match x, y with
    | .v (.str a), .v (.str b) => some (!decide (a = b))
    | _, _ => (eqRV x y S).map (!·)
  | .is => isRV x y
  | .isnt => (isRV x y).map (!·)
  | .mem => memRV x y S
  | .nmem => (memRV x y S).map (!·)
  | .lt => match x, y with
    | .v (.int a), .v (.int b) => some (decide (a < b))
    | .v (.str a), .v (.str b) => some (decide (a.cps.toList < b.cps.toList))
    | _, _ => none
  | .le => match x, y with
    | .v (.int a), .v (.int b) => some (decide (a ≤ b))
    | .v (.str a), .v (.str b) => some (!decide (b.cps.toList < a.cps.toList))
    | _, _ => none
  | .gt => match x, y with
    | .v (.int a), .v (.int b) => some (decide (b < a))
    | .v (.str a), .v (.str b) => some (decide (b.cps.toList < a.cps.toList))
    | _, _ => none
  | .ge => match x, y with
    | .v (.int a), .v (.int b) => some (decide (b ≤ a))
    | _, _ => none

def mulOk (i j : Int) : Bool := decide (i.natAbs < 2 ^ 64) || decide (j.natAbs < 2 ^ 64)
def repL (xs : List PV) (k : Int) : List PV := (List.replicate k.toNat xs).flatten
def repS (s : Str) (k : Int) : Str := ⟨(List.replicate k.toNat s.cps.toList).flatten.toArray⟩
def binRV (op : BOp) (x y : RV) (S : Store) : Option RV := match op with
  | .add => match x, y with
    | .v (.int a), .v (.int b) => some (.v (.int (a + b)))
    | .v (.str a), .v (.str b) => if a.length + b.length ≤ sizeLine then some (.v (.str (a ++ b))) else none
    | .v (.tup a), .v (.tup b) => if a.length + b.length ≤ sizeLine then some (.v (.tup (a ++ b))) else none
    | r, q => match myList r S, myList q S with
      | some a, some b => if a.length + b.length ≤ sizeLine then some (.lst (a ++ b)) else none
      | _, _ => none
  | .sub => match x, y with
    | .v (.int a), .v (.int b) => some (.v (.int (a - b)))
    | _, _ => none
  | .mul => match x, y with
    | .v (.int a), .v (.int b) => if mulOk a b then some (.v (.int (a * b))) else none
    | _, _ => none
  | .fdiv => match x, y with
    | .v (.int a), .v (.int b) => if 0 < b ∧ b.natAbs < 1073741824 then some (.v (.int (a / b))) else none
    | _, _ => none
  | .mod => match x, y with
    | .v (.int a), .v (.int b) => if 0 < b then some (.v (.int (a % b))) else none
    | _, _ => none
  | .pow => match x, y with
    | .v (.int a), .v (.int b) => if 0 ≤ b ∧ b.natAbs ≤ 1000000 ∧ a.natAbs < 2 ^ 64 then some (.v (.int (a ^ b.toNat))) else none
    | _, _ => none

def truthy (x : RV) (S : Store) : Option Bool := match x with
  | .v .non => some false
  | .v (.bool b) => some b
  | .v (.int i) => some (i != 0)
  | .v (.str s) => if s.length ≤ sizeLine then some ((s.length : Int) != 0) else none
  | .v (.tup xs) => some (!xs.isEmpty)
  | .v (.ref n) => match S[n]? with
    | some (.lst xs) => some (!xs.isEmpty)
    | some (.ro xs) => some (!xs.isEmpty)
    | _ => none
  | .lst xs => some (!xs.isEmpty)
  | .dict _ => none

def ixRV (x y : RV) (S : Store) : Option RV := match x, y with
  | .v (.str z), .v (.int i) => if z.length ≤ sizeLine then (L2.atI z.cps.toList i).map fun c => .v (.str ⟨#[c]⟩) else none
  | r, .v (.int i) => match rdSeq r S with
    | some xs => (L2.atI xs i).map .v
    | none => none
  | _, _ => none
def cutP (xs : List PV) (lo hi : Option Int) : List PV := (xs.drop (HT.sIx xs.length 0 lo)).take (HT.sIx xs.length xs.length hi - HT.sIx xs.length 0 lo)
def slRV (x : RV) (lo hi : Option Int) (S : Store) : Option RV := match x with
  | .v (.str z) => if z.length ≤ sizeLine then some (.v (.str (L2.cutS z lo hi))) else none
  | .v (.tup xs) => some (.v (.tup (cutP xs lo hi)))
  | r => match rdList r S with
    | some xs => some (.lst (cutP xs lo hi))
    | none => none

def strs? : List PV → Option (List Str)
  | [] => some []
  | .str s :: r => (strs? r).map (s :: ·)
  | _ => none
def ints? : List PV → Option (List Int)
  | [] => some []
  | .int i :: r => (ints? r).map (i :: ·)
  | _ => none
def bools? : List PV → Option (List Bool)
  | [] => some []
  | .bool b :: r => (bools? r).map (b :: ·)
  | _ => none

def biRV (b : Bi) (rs : List RV) (S : Store) : Option RV := match b, rs with
  | .len, [.v (.str z)] => if z.length ≤ sizeLine then some (.v (.int z.length)) else none
  | .len, [r] => (rdSeq r S).map fun xs => .v (.int xs.length)
  | .int, [.v (.int i)] => some (.v (.int i))
  | .int, [.v (.bool b)] => some (.v (.int (if b then 1 else 0)))
  | .int, [.v (.str z)] => if z.length ≤ 640 then (intText? z).map fun n => .v (.int n) else none
  | .str, [.v (.int i)] => if i.natAbs.log2 < 1920 then some (.v (.str (Str.ofString (toString i)))) else none
  | .tuple, [.v (.tup xs)] => some (.v (.tup xs))
  | .tuple, [r] => (rdList r S).map fun xs => .v (.tup xs)
  | .list, [r] => (rdSeq r S).map .lst
  | .bool, [.v (.bool b)] => some (.v (.bool b))
  | .sum, [r] => ((rdList r S).bind ints?).map fun ns => .v (.int ns.sum)
  | .all, [r] => ((rdList r S).bind bools?).map fun bs => .v (.bool (bs.all id))
  | .any, [r] => ((rdList r S).bind bools?).map fun bs => .v (.bool (bs.any id))
  | .ord, [.v (.str z)] => if z.length = 1 then some (.v (.int (z.cps.getD 0 0 : Nat))) else none
  | _, _ => none

/-- the name of a value's type -/
def kindOf (r : RV) (S : Store) : Option String := match r with
  | .v .non => some "NoneType"
  | .v (.bool _) => some "bool"
  | .v (.int _) => some "int"
  | .v (.str _) => some "str"
  | .v (.tup _) => some "tuple"
  | .v (.ref n) => match S[n]? with
    | some (.lst _) => some "list"
    | _ => none
  | .lst _ => some "list"
  | .dict _ => some "dict"
def tyNames : List String := ["int", "bool", "str", "tuple", "list", "dict"]
/-- the type of a value against the name of a built-in class -/
def isType (ty : String) (r : RV) (S : Store) : Option Bool := match kindOf r S with
  | some a => if ty ∈ tyNames then some (decide (ty = a) || (decide (a = "bool") && decide (ty = "int"))) else none
  | none => none

def joinOk (a : Str) (ys : List Str) : Bool := decide ((ys.map (·.length)).sum + ys.length * a.length ≤ 16777216)
def meRV (m : Me) (o : RV) (rs : List RV) (S : Store) : Option (RV × Store) := match m, o, rs with
  | .append, .v (.ref n), [.v x] => match S[n]? with
    | some (.lst xs) => if xs.length < sizeLine then some (.v .non, S.set n (.lst (xs ++ [x]))) else none
    | _ => none
  | .pop, .v (.ref n), [] => match S[n]? with
    | some (.lst xs) => match xs[xs.length - 1]? with
      | some y => some (.v y, S.set n (.lst xs.dropLast))
      | none => none
    | _ => none
  | .find, .v (.str a), [.v (.str b)] => some (.v (.int (Txt.find a b)), S)
  | .find, .v (.str a), [.v (.str b), .v (.int i)] => some (.v (.int (Txt.find3 a b i)), S)
  | .find, .v (.str a), [.v (.str b), .v (.int i), .v (.int j)] => some (.v (.int (Txt.findIn a b i j)), S)
  | .join, .v (.str a), [r] => match (rdSeq r S).bind strs? with
    | some ys => if joinOk a ys then some (.v (.str (Txt.join a ys)), S) else none
    | none => none
  | _, _, _ => none

def isLst (x : RV) (S : Store) : Bool := match x with
  | .v (.ref n) => match S[n]? with
    | some (.lst _) => true
    | _ => false
  | _ => false
def isTxt (x : RV) : Bool := match x with
  | .v (.str _) => true
  | _ => false
/-- is this a receiver for the method -/
def recv (m : Me) (x : RV) (S : Store) : Bool := match m with
  | .append | .pop => isLst x S
  | .find | .join => isTxt x
/-- a text changed by written replacements, the last one first -/
def replOk (x y z : Str) : Bool := decide (x.length + (x.length + 1) * z.length ≤ 16777216)
def replAll : List (Str × Str) → Str → Option Str
  | [], x => some x
  | (y, z) :: r, x => match replAll r x with
    | some t => if replOk t y z then some (Txt.replace t y z) else none
    | none => none

/-! ### terms -/
mutual
inductive Tg where
  | name (i : Nat) | tup (ts : Tgs)
inductive Tgs where
  | nil | cons (t : Tg) (ts : Tgs)
end
mutual
inductive E where
  | var (i : Nat) | non | bool (b : Bool) | int (i : Int) | str (s : Str) | glob (g : Nat)
  | bin (op : BOp) (a b : E) | cmp (op : CO) (a b : E)
  | and (a b : E) | and1 (a : E) | or (a b : E) | or1 (a : E) | not (a : E) | neg (a : E) | ife (c a b : E)
  | tup (es : Es) | lst (es : Es)
  | call (f : Nat) (es : Es) | bcall (b : Bi) (es : Es) | isi (ty : String) (a : E) | meth (m : Me) (o : E) (es : Es)
  | repl (c : Str) (o : E) (rs : List (Str × Str))
  | ix (a b : E) | slc (a : E) (lo hi : Pt)
  /-- a list comprehension: element, target, source, test, the places of its own names -/
  | lc (elt : E) (tg : Tg) (it : It) (cond : Pt) (own : List Nat)
/-- a part that may be left out -/
inductive Pt where
  | no | e (x : E)
inductive It where
  | e (x : E) | rng1 (a : E) | rng2 (a b : E)
inductive Es where
  | nil | cons (e : E) (es : Es)
end
mutual
inductive St where
  | asg (t : Tg) (e : E) | sub (o i e : E) | aug (i : Nat) (op : BOp) (e : E) | expr (e : E) | ret (e : E) | retN | pass | brk | cont | never
  /-- x, y = e, f -/
  | par (i j : Nat) (e f : E)
  | ifS (c : E) (a b : Bk) | whileS (c : E) (b : Bk) | forS (t : Tg) (it : It) (b : Bk)
inductive Bk where
  | nil | cons (s : St) (b : Bk)
end
end Deep

set_option Elab.async false
set_option linter.all false
set_option maxRecDepth 100000
set_option maxHeartbeats 4000000
/-! The deep layer, 1: the evaluator. -/
namespace Deep
open PySem

structure Par where
  call : Nat → List PV → Store → Res RV
  glob : Nat → Option PV
  fuel : Nat

abbrev Guard := Option (Nat × List PV)
def Guard.ok (g : Guard) (S : Store) : Bool := match g with
  | none => true
  | some (n, xs) => decide (S[n]? = some (.lst xs))

def unpk : RV → Store → Option (List PV)
  | .v (.tup xs), _ => some xs
  | .v (.ref n), S => match S[n]? with
    | some (.lst xs) => some xs
    | _ => none
  | .lst xs, _ => some xs
  | _, _ => none
mutual
def bindT : Tg → RV → PEnv → Store → Option (PEnv × Store)
  | .name i, r, env, S => some (env.set i (some (settle r S).1), (settle r S).2)
  | .tup ts, r, env, S => match unpk r S with
    | some xs => bindTs ts xs env S
    | none => none
def bindTs : Tgs → List PV → PEnv → Store → Option (PEnv × Store)
  | .nil, [], env, S => some (env, S)
  | .cons t ts, x :: xs, env, S => match bindT t (.v x) env S with
    | some (e, S') => bindTs ts xs e S'
    | none => none
  | _, _, _, _ => none
end
mutual
def Tg.slots : Tg → List Nat
  | .name i => [i]
  | .tup ts => ts.slots
def Tgs.slots : Tgs → List Nat
  | .nil => []
  | .cons t ts => t.slots ++ ts.slots
end
def Tgs.len : Tgs → Nat
  | .nil => 0
  | .cons _ ts => ts.len + 1

/-- the own names of a block forgotten -/
def forget (env : PEnv) : List Nat → PEnv
  | [] => env
  | i :: is => (forget env is).set i none

def lcLoop (g : Guard) (step : PV → Store → Res (Option RV)) : List PV → List PV → Store → Res (List PV)
  | [], acc, S => if g.ok S then .ok acc S else .stuck
  | x :: xs, acc, S => if g.ok S then (match step x S with
    | .ok none S' => lcLoop g step xs acc S'
    | .ok (some r) S' => if acc.length < sizeLine then lcLoop g step xs (acc ++ [(settle r S').1]) (settle r S').2 else .stuck
    | _ => .stuck) else .stuck

def items (r : RV) (S : Store) : Option (List PV × Guard) := match r with
  | .v (.tup xs) => some (xs, none)
  | .v (.str z) => some (z.cps.toList.map fun c => .str ⟨#[c]⟩, none)
  | .v (.ref n) => match S[n]? with
    | some (.lst xs) => some (xs, some (n, xs))
    | some (.ro xs) => some (xs, none)
    | _ => none
  | .lst xs => some (xs, none)
  | _ => none
def inRange (i : Int) : Bool := decide (i.natAbs < 2 ^ 62)
def rangeItems (i j : Int) : List PV := (List.range (j - i).toNat).map fun (k : Nat) => .int (i + (k : Int))

mutual
def evalE (P : Par) : E → PEnv → Store → Res RV
  | .var i, env, S => match env[i]? with
    | some (some x) => .ok (.v x) S
    | _ => .stuck
  | .non, _, S => .ok (.v .non) S
  | .bool b, _, S => .ok (.v (.bool b)) S
  | .int i, _, S => .ok (.v (.int i)) S
  | .str s, _, S => .ok (.v (.str s)) S
  | .glob g, _, S => match P.glob g with
    | some x => .ok (.v x) S
    | none => .stuck
  | .bin op a b, env, S => (evalE P a env S).bind fun x S1 => (evalE P b env S1).bind fun y S2 => .of (binRV op x y S2) S2
  | .cmp op a b, env, S => (evalE P a env S).bind fun x S1 => (evalE P b env S1).bind fun y S2 => .of ((cmpRV op x y S2).map fun k => .v (.bool k)) S2
  | .and a b, env, S => (evalE P a env S).bind fun x S1 => match truthy x S1 with
    | some true => evalE P b env S1
    | some false => .ok x S1
    | none => .stuck
  | .and1 a, env, S => evalE P a env S
  | .or a b, env, S => (evalE P a env S).bind fun x S1 => match truthy x S1 with
    | some false => evalE P b env S1
    | some true => .ok x S1
    | none => .stuck
  | .or1 a, env, S => evalE P a env S
  | .not a, env, S => (evalE P a env S).bind fun x S1 => .of ((truthy x S1).map fun k => .v (.bool (!k))) S1
  | .neg a, env, S => (evalE P a env S).bind fun x S1 => match x with
    | .v (.int i) => .ok (.v (.int (-i))) S1
    | _ => .stuck
  | .ife c a b, env, S => (evalT P c env S).bind fun k S1 => if k then evalE P a env S1 else evalE P b env S1
  | .tup es, env, S => (evalA P es env S).bind fun xs S1 => if xs.length ≤ sizeLine then .ok (.v (.tup xs)) S1 else .stuck
  | .lst es, env, S => (evalA P es env S).bind fun xs S1 => if xs.length ≤ sizeLine then .ok (.lst xs) S1 else .stuck
  | .call f es, env, S => (evalA P es env S).bind fun xs S1 => P.call f xs S1
  | .bcall b es, env, S => (evalR P es env S).bind fun rs S1 => .of (biRV b rs S1) S1
  | .isi ty a, env, S => (evalE P a env S).bind fun x S1 => .of ((isType ty x S1).map fun k => .v (.bool k)) S1
  | .meth m o es, env, S => (evalE P o env S).bind fun x S1 => if recv m x S1 then (evalR P es env S1).bind fun rs S2 => .ofS (meRV m x rs S2) else .stuck
  | .repl c o rs, env, S => (evalE P o env S).bind fun x S1 => match x with
    | .v (.str z) => match replAll rs z with
      | some t => if c.length + t.length ≤ sizeLine then .ok (.v (.str (c ++ t))) S1 else .stuck
      | none => .stuck
    | _ => .stuck
  | .ix a b, env, S => (evalE P a env S).bind fun x S1 => (evalE P b env S1).bind fun y S2 => .of (ixRV x y S2) S2
  | .slc a lo hi, env, S => (evalE P a env S).bind fun x S1 => (evalO P lo env S1).bind fun l S2 => (evalO P hi env S2).bind fun h S3 => .of (slRV x l h S3) S3
  | .lc elt tg it cond own, env, S => (evalI P it env S).bind fun p S1 =>
    (lcLoop p.2 (fun x S2 => match bindT tg (.v x) (forget env own) S2 with
      | some (e, S3) => (evalC P cond e S3).bind fun k S4 => if k then (evalE P elt e S4).bind fun r S5 => .ok (some r) S5 else .ok none S4
      | none => .stuck) p.1 [] S1).bind fun xs S2 => .ok (.lst xs) S2
/-- a test -/
def evalT (P : Par) : E → PEnv → Store → Res Bool
  | .not a, env, S => (evalT P a env S).bind fun k S1 => .ok (!k) S1
  | .and a b, env, S => (evalT P a env S).bind fun k S1 => if k then evalT P b env S1 else .ok false S1
  | .and1 a, env, S => evalT P a env S
  | .or a b, env, S => (evalT P a env S).bind fun k S1 => if k then .ok true S1 else evalT P b env S1
  | .or1 a, env, S => evalT P a env S
  | .cmp op a b, env, S => (evalE P a env S).bind fun x S1 => (evalE P b env S1).bind fun y S2 => .of (cmpRV op x y S2) S2
  | .ife _ _ _, _, _ => .stuck
  | .var i, env, S => match env[i]? with
    | some (some x) => .of (truthy (.v x) S) S
    | _ => .stuck
  | .call f es, env, S => (evalA P es env S).bind fun xs S1 => (P.call f xs S1).bind fun x S2 => .of (truthy x S2) S2
  | .bcall b es, env, S => (evalR P es env S).bind fun rs S1 => (Res.of (biRV b rs S1) S1).bind fun x S2 => .of (truthy x S2) S2
  | .isi ty a, env, S => (evalE P a env S).bind fun x S1 => .of (isType ty x S1) S1
    | .ix a b, env, S => (evalE P a env S).bind fun x S1 => (evalE P b env S1).bind fun y S2 => (Res.of (ixRV x y S2) S2).bind fun x S3 => .of (truthy x S3) S3
  | .bool b, _, S => .ok b S
  | _, _, _ => .stuck
/-- the test of a comprehension -/
def evalC (P : Par) : Pt → PEnv → Store → Res Bool
  | .no, _, S => .ok true S
  | .e x, env, S => evalT P x env S
/-- the parts of a slice -/
def evalO (P : Par) : Pt → PEnv → Store → Res (Option Int)
  | .no, _, S => .ok none S
  | .e x, env, S => (evalE P x env S).bind fun r S1 => match r with
    | .v (.int k) => .ok (some k) S1
    | _ => .stuck
/-- what a loop goes over -/
def evalI (P : Par) : It → PEnv → Store → Res (List PV × Guard)
  | .e x, env, S => (evalE P x env S).bind fun r S1 => .of (items r S1) S1
  | .rng1 a, env, S => (evalE P a env S).bind fun x S1 => match x with
    | .v (.int j) => if inRange j then .ok (rangeItems 0 j, none) S1 else .stuck
    | _ => .stuck
  | .rng2 a b, env, S => (evalE P a env S).bind fun x S1 => (evalE P b env S1).bind fun y S2 => match x, y with
    | .v (.int i), .v (.int j) => if inRange i && inRange j then .ok (rangeItems i j, none) S2 else .stuck
    | _, _ => .stuck
/-- arguments, settled one by one -/
def evalA (P : Par) : Es → PEnv → Store → Res (List PV)
  | .nil, _, S => .ok [] S
  | .cons e es, env, S => (evalE P e env S).bind fun r S1 => (evalA P es env (settle r S1).2).bind fun xs S2 => .ok ((settle r S1).1 :: xs) S2
/-- arguments as they come -/
def evalR (P : Par) : Es → PEnv → Store → Res (List RV)
  | .nil, _, S => .ok [] S
  | .cons e es, env, S => (evalE P e env S).bind fun r S1 => (evalR P es env S1).bind fun rs S2 => .ok (r :: rs) S2
end

def forLoop (g : Guard) (bnd : PV → PEnv → Store → Option (PEnv × Store)) (body : PEnv → Store → SR) : List PV → PEnv → Store → SR
  | [], env, S => if g.ok S then .nx env S else .stuck
  | x :: xs, env, S => if g.ok S then (match bnd x env S with
    | none => .stuck
    | some (e, S1) => match body e S1 with
      | .nx e2 S2 => forLoop g bnd body xs e2 S2
      | .ct e2 S2 => forLoop g bnd body xs e2 S2
      | .bk e2 S2 => .nx e2 S2
      | r => r) else .stuck
def whileN (c : PEnv → Store → Res Bool) (body : PEnv → Store → SR) : Nat → PEnv → Store → SR
  | 0, _, _ => .stuck
  | n + 1, env, S => match c env S with
    | .ok true S1 => (match body env S1 with
      | .nx e2 S2 => whileN c body n e2 S2
      | .ct e2 S2 => whileN c body n e2 S2
      | .bk e2 S2 => .nx e2 S2
      | r => r)
    | .ok false S1 => .nx env S1
    | .exc x S1 => .ex x env S1
    | .stuck => .stuck

/-- an expression's end, within a statement -/
def Res.st {α : Type} (r : Res α) (env : PEnv) (k : α → Store → SR) : SR := match r with
  | .ok a S => k a S
  | .exc x S => .ex x env S
  | .stuck => .stuck
def SR.seq (r : SR) (k : PEnv → Store → SR) : SR := match r with
  | .nx e S => k e S
  | r => r
def SR.ofB : Option (PEnv × Store) → SR
  | some (e, S) => .nx e S
  | none => .stuck

def subRV (o i : RV) (x : PV) (S : Store) : Option Store := match o, i with
  | .v (.ref n), .v (.int k) => match S[n]? with
    | some (.lst xs) => match L2.ixN xs.length k with
      | some j => some (S.set n (.lst (xs.set j x)))
      | none => none
    | _ => none
  | _, _ => none
def augOk (op : BOp) (x y : RV) : Bool := match op, x, y with
  | .add, .v (.int _), .v (.int _) => true
  | .sub, .v (.int _), .v (.int _) => true
  | .mul, .v (.int _), .v (.int _) => true
  | .add, .v (.str _), .v (.str _) => true
  | _, _, _ => false

mutual
def evalS (P : Par) : St → PEnv → Store → SR
  | .asg t e, env, S => (evalE P e env S).st env fun r S1 => .ofB (bindT t r env S1)
  | .sub o i e, env, S => (evalE P e env S).st env fun r S1 => (evalE P o env (settle r S1).2).st env fun ro S2 => (evalE P i env S2).st env fun ri S3 =>
      match subRV ro ri (settle r S1).1 S3 with
      | some S4 => .nx env S4
      | none => .stuck
  | .aug i op e, env, S => match env[i]? with
    | some (some x) => (evalE P e env S).st env fun y S1 => if augOk op (.v x) y then (match binRV op (.v x) y S1 with
        | some (.v z) => .nx (env.set i (some z)) S1
        | _ => .stuck) else .stuck
    | _ => .stuck
  | .expr e, env, S => (evalE P e env S).st env fun _ S1 => .nx env S1
  | .ret e, env, S => (evalE P e env S).st env fun r S1 => .rt r S1
  | .retN, _, S => .rt (.v .non) S
  | .pass, env, S => .nx env S
  | .brk, env, S => .bk env S
  | .cont, env, S => .ct env S
  | .never, _, _ => .stuck
  | .par i j e f, env, S => (evalE P e env S).st env fun r S1 => (evalE P f env (settle r S1).2).st env fun q S2 =>
      .nx ((env.set i (some (settle r S1).1)).set j (some (settle q S2).1)) (settle q S2).2
  | .ifS c a b, env, S => (evalT P c env S).st env fun k S1 => if k then evalB P a env S1 else evalB P b env S1
  | .whileS c b, env, S => whileN (evalT P c) (evalB P b) P.fuel env S
  | .forS t it b, env, S => (evalI P it env S).st env fun p S1 => forLoop p.2 (fun x e S2 => bindT t (.v x) e S2) (evalB P b) p.1 env S1
def evalB (P : Par) : Bk → PEnv → Store → SR
  | .nil, env, S => .nx env S
  | .cons s b, env, S => (evalS P s env S).seq fun e S1 => evalB P b e S1
end

/-! ### defs -/
/-- what stood before stands, or names nothing new -/
def keepOk : Nat → Store → Store → Bool
  | _, [], _ => true
  | _, _ :: _, [] => false
  | n, o :: S, o' :: S' => (decide (o = o') || o'.under n) && keepOk n S S'
/-- a call's end: what the call made and nobody holds is forgotten; a new list that is handed back is nobody's -/
def gcR (S : Store) (r : RV) (S' : Store) : RV × Store :=
  if keepOk S.length S S' then match r with
    | .v (.ref m) => if m < S.length then (.v (.ref m), S'.take S.length) else match S'[m]? with
      | some (.lst xs) => if PV.underL S.length xs then (.lst xs, S'.take S.length) else (r, S')
      | some (.dict kvs) => if (MO.dict kvs).under S.length then (.dict kvs, S'.take S.length) else (r, S')
      | _ => (r, S')
    | .v x => if x.under S.length then (.v x, S'.take S.length) else (r, S')
    | .lst xs => if PV.underL S.length xs then (.lst xs, S'.take S.length) else (r, S')
    | .dict kvs => if (MO.dict kvs).under S.length then (.dict kvs, S'.take S.length) else (r, S')
  else (r, S')
def gcX (S : Store) (x : Exc) (S' : Store) : Store := if keepOk S.length S S' && PV.underL S.length x.args then S'.take S.length else S'
def finR (S : Store) : SR → Res RV
  | .rt r S' => .ok (gcR S r S').1 (gcR S r S').2
  | .nx _ S' => .ok (gcR S (.v .non) S').1 (gcR S (.v .non) S').2
  | .ex x _ S' => .exc x (gcX S x S')
  | _ => .stuck
structure FD where
  np : Nat
  ns : Nat
  body : Bk
abbrev Prog := Nat → Option FD
def enter (fd : FD) (args : List PV) : PEnv := args.map some ++ List.replicate (fd.ns - args.length) none
def evalFn (Pr : Prog) (gl : Nat → Option PV) (fuel : Nat) : Nat → Nat → List PV → Store → Res RV
  | 0, _, _, _ => .stuck
  | k + 1, f, args, S => match Pr f with
    | none => .stuck
    | some fd => if args.length = fd.np then finR S (evalB ⟨evalFn Pr gl fuel k, gl, fuel⟩ fd.body (enter fd args) S) else .stuck
end Deep

set_option Elab.async false
set_option linter.all false
set_option maxRecDepth 100000
set_option maxHeartbeats 4000000
/-! The deep layer, 2: how values, stores and slots of the evaluator lie in the abstract heap; what a reading by the evaluator asks. -/
namespace Deep
open PySem PySem.Spec PyProof.Rows L2

abbrev Rho := Nat → Option Addr
/-- what is fixed for a run: the written part, the script's place, the classes of exceptions with their fields -/
structure Tb where
  K : PySem.W.Frag
  ro : Nat → Option Addr
  cls : Nat → Option (Str × List Str)
mutual
inductive Rep (T : Tb) (ρ : Rho) (H : Hp) : PV → V → Prop
  | non : Rep T ρ H .non .non
  | bool (b : Bool) : Rep T ρ H (.bool b) (.bl b)
  | int (i : Int) : Rep T ρ H (.int i) (.int i)
  | str (s : Str) : Rep T ρ H (.str s) (.str s)
  | ref {n : Nat} {a : Addr} : ρ n = some a → Rep T ρ H (.ref n) (.ref a)
  | ro {n : Nat} {a : Addr} : T.ro n = some a → Rep T ρ H (.ref n) (.ref a)
  | tup {xs : List PV} {a : Addr} {vs : List V} : SqT T.K H a vs → RepL T ρ H xs vs → Rep T ρ H (.tup xs) (.ref a)
inductive RepL (T : Tb) (ρ : Rho) (H : Hp) : List PV → List V → Prop
  | nil : RepL T ρ H [] []
  | cons {x : PV} {v : V} {xs : List PV} {vs : List V} : Rep T ρ H x v → RepL T ρ H xs vs → RepL T ρ H (x :: xs) (v :: vs)
end

/-- from one state to a later one -/
structure Ext (ρ ρ' : Rho) (H H' : Hp) : Prop where
  sub : ∀ n a, ρ n = some a → ρ' n = some a
  tup : ∀ a xs, H a = some (.tup xs) → H' a = some (.tup xs)
  frz : ∀ a o u, H a = some (.frz o u) → H' a = some (.frz o u)
  frame : ∀ a o, H a = some o → (∀ n, ρ n ≠ some a) → H' a = some o
  new : ∀ n a, ρ' n = some a → ρ n = some a ∨ H a = none
  dom : ∀ a, H a ≠ none → H' a ≠ none
theorem Ext.refl {ρ : Rho} {H : Hp} : Ext ρ ρ H H := ⟨fun _ _ h => h, fun _ _ h => h, fun _ _ _ h => h, fun _ _ h _ => h, fun _ _ h => .inl h, fun _ h => h⟩
theorem Ext.dom' {ρ ρ' : Rho} {H H' : Hp} (e : Ext ρ ρ' H H') {a : Addr} (h : H' a = none) : H a = none := by
  cases q : H a with
  | none => rfl
  | some o => exact absurd h (e.dom a (by rw [q]; exact fun z => nomatch z))
theorem Ext.trans {ρ ρ1 ρ2 : Rho} {H H1 H2 : Hp} (a : Ext ρ ρ1 H H1) (b : Ext ρ1 ρ2 H1 H2) : Ext ρ ρ2 H H2 where
  sub := fun n x h => b.sub n x (a.sub n x h)
  tup := fun x xs h => b.tup x xs (a.tup x xs h)
  frz := fun x o u h => b.frz x o u (a.frz x o u h)
  frame := fun x o h hn => b.frame x o (a.frame x o h hn) fun n q => by
    rcases a.new n x q with z | z
    · exact hn n z
    · rw [h] at z; cases z
  new := fun n x h => by
    rcases b.new n x h with z | z
    · exact a.new n x z
    · exact .inr (a.dom' z)
  dom := fun x h => b.dom x (a.dom x h)

/-- tuples and what is locked persist -/
structure Keeps (H H' : Hp) : Prop where
  tup : ∀ a xs, H a = some (.tup xs) → H' a = some (.tup xs)
  frz : ∀ a o u, H a = some (.frz o u) → H' a = some (.frz o u)
theorem Ext.keeps {ρ ρ' : Rho} {H H' : Hp} (e : Ext ρ ρ' H H') : Keeps H H' := ⟨e.tup, e.frz⟩
theorem Keeps.sqT {K : PySem.W.Frag} {H H' : Hp} (k : Keeps H H') {a : Addr} {xs : List V} (h : SqT K H a xs) : SqT K H' a xs := by
  rcases h with (h | ⟨o, h⟩) | h
  · exact .inl (.inl (k.tup _ _ h))
  · exact .inl (.inr ⟨o, k.frz _ _ _ h⟩)
  · exact .inr h
mutual
theorem Rep.mono {T : Tb} {ρ ρ' : Rho} {H H' : Hp} (s : ∀ n a, ρ n = some a → ρ' n = some a) (k : Keeps H H') : ∀ {x : PV} {v : V}, Rep T ρ H x v → Rep T ρ' H' x v
  | _, _, .non => .non
  | _, _, .bool b => .bool b
  | _, _, .int i => .int i
  | _, _, .str z => .str z
  | _, _, .ref h => .ref (s _ _ h)
  | _, _, .ro h => .ro h
  | _, _, .tup h r => .tup (k.sqT h) (RepL.mono s k r)
theorem RepL.mono {T : Tb} {ρ ρ' : Rho} {H H' : Hp} (s : ∀ n a, ρ n = some a → ρ' n = some a) (k : Keeps H H') : ∀ {x : List PV} {v : List V}, RepL T ρ H x v → RepL T ρ' H' x v
  | _, _, .nil => .nil
  | _, _, .cons h r => .cons (h.mono s k) (RepL.mono s k r)
end
section
variable {T : Tb} {ρ ρ' : Rho} {H H' : Hp}
theorem Rep.ext {x : PV} {v : V} (e : Ext ρ ρ' H H') (h : Rep T ρ H x v) : Rep T ρ' H' x v := h.mono e.sub e.keeps
theorem RepL.ext {x : List PV} {v : List V} (e : Ext ρ ρ' H H') (h : RepL T ρ H x v) : RepL T ρ' H' x v := h.mono e.sub e.keeps
theorem RepL.length : ∀ {xs : List PV} {vs : List V}, RepL T ρ H xs vs → xs.length = vs.length
  | _, _, .nil => rfl
  | _, _, .cons _ r => by simp [r.length]
theorem RepL.append : ∀ {xs ys : List PV} {vs ws : List V}, RepL T ρ H xs vs → RepL T ρ H ys ws → RepL T ρ H (xs ++ ys) (vs ++ ws)
  | _, _, _, _, .nil, s => s
  | _, _, _, _, .cons r t, s => .cons r (RepL.append t s)
theorem RepL.take : ∀ {xs : List PV} {vs : List V} (n : Nat), RepL T ρ H xs vs → RepL T ρ H (xs.take n) (vs.take n)
  | _, _, 0, _ => .nil
  | _, _, _ + 1, .nil => .nil
  | _, _, n + 1, .cons r t => .cons r (RepL.take n t)
theorem RepL.drop : ∀ {xs : List PV} {vs : List V} (n : Nat), RepL T ρ H xs vs → RepL T ρ H (xs.drop n) (vs.drop n)
  | _, _, 0, r => r
  | _, _, _ + 1, .nil => .nil
  | _, _, n + 1, .cons _ t => RepL.drop n t
theorem RepL.get : ∀ {xs : List PV} {vs : List V} {i : Nat} {x : PV}, RepL T ρ H xs vs → xs[i]? = some x → ∃ v, vs[i]? = some v ∧ Rep T ρ H x v
  | _, _, _, _, .nil, e => by simp at e
  | _, _, 0, _, .cons r _, e => by simp at e; subst e; exact ⟨_, rfl, r⟩
  | _, _, i + 1, x, .cons _ t, e => by
    obtain ⟨v, h1, h2⟩ := RepL.get (i := i) (x := x) t (by simpa using e)
    exact ⟨v, by simpa using h1, h2⟩
theorem RepL.get' {xs : List PV} {vs : List V} {i : Nat} {v : V} (r : RepL T ρ H xs vs) (e : vs[i]? = some v) : ∃ x, xs[i]? = some x ∧ Rep T ρ H x v := by
  have hl := r.length
  cases q : xs[i]? with
  | none =>
    have h1 := List.getElem?_eq_none_iff.mp q
    rw [List.getElem?_eq_none_iff.mpr (by omega)] at e
    cases e
  | some x =>
    obtain ⟨v', h1, h2⟩ := r.get q
    rw [e] at h1
    cases h1
    exact ⟨x, rfl, h2⟩
theorem RepL.set {x : PV} {v : V} (h : Rep T ρ H x v) : ∀ {xs : List PV} {vs : List V} (i : Nat), RepL T ρ H xs vs → RepL T ρ H (xs.set i x) (vs.set i v)
  | _, _, _, .nil => .nil
  | _, _, 0, .cons _ t => .cons h t
  | _, _, i + 1, .cons q t => .cons q (RepL.set h i t)
theorem RepL.dropLast {xs : List PV} {vs : List V} (h : RepL T ρ H xs vs) : RepL T ρ H xs.dropLast vs.dropLast := by
  rw [List.dropLast_eq_take, List.dropLast_eq_take, h.length]
  exact h.take _
theorem RepL.isEmpty {xs : List PV} {vs : List V} (h : RepL T ρ H xs vs) : xs.isEmpty = vs.isEmpty := by
  cases h <;> rfl
theorem RepL.atI {xs : List PV} {vs : List V} {i : Int} {x : PV} (r : RepL T ρ H xs vs) (e : L2.atI xs i = some x) : ∃ v, L2.atI vs i = some v ∧ Rep T ρ H x v := by
  unfold L2.atI at e ⊢
  rw [← r.length]
  cases q : ixN xs.length i with
  | none => rw [q] at e; cases e
  | some j =>
    rw [q] at e
    exact r.get (i := j) e
theorem RepL.cut {xs : List PV} {vs : List V} (r : RepL T ρ H xs vs) (lo hi : Option Int) : RepL T ρ H (cutP xs lo hi) (cutV vs lo hi) := by
  unfold cutP cutV
  rw [r.length]
  exact (r.drop _).take _
end

/-- a list that is read alone: locked, or one of the module's own -/
def RoL (K : PySem.W.Frag) (H : Hp) (a : Addr) (vs : List V) : Prop := (∃ o, H a = some (.frz o (.lst vs))) ∨
  ∃ (o : Obj) (its : Array Value) (n : Nat), K.lookup a = some o ∧ o.cls = .type "list" ∧ o.dict = none ∧ o.data = .seq its n ∧ its.size ≤ sizeLine ∧ Vals vs its.toList
theorem RoL.sq {K : PySem.W.Frag} {H : Hp} {a : Addr} {vs : List V} (h : RoL K H a vs) : SqL K H a vs := h.elim (fun ⟨o, q⟩ => .inl (.inr ⟨o, q⟩)) .inr
theorem RoL.keep {K : PySem.W.Frag} {H H' : Hp} {a : Addr} {vs : List V} (h : RoL K H a vs) (k : Keeps H H') : RoL K H' a vs := h.elim (fun ⟨o, q⟩ => .inl ⟨o, k.frz _ _ _ q⟩) .inr
def RepO (T : Tb) (ρ : Rho) (H : Hp) (n : Nat) : MO → Prop
  | .lst xs => ∃ a vs, ρ n = some a ∧ H a = some (.lst vs) ∧ RepL T ρ H xs vs
  | .ro xs => ∃ a vs, T.ro n = some a ∧ RoL T.K H a vs ∧ RepL T ρ H xs vs
  | .dict _ => False
def MO.mut : MO → Bool
  | .ro _ => false
  | _ => true
structure HRep (T : Tb) (ρ : Rho) (S : Store) (H : Hp) : Prop where
  obj : ∀ n o, S[n]? = some o → RepO T ρ H n o
  dom : ∀ n a, ρ n = some a → ∃ o, S[n]? = some o ∧ o.mut = true
  rof : ∀ n a, T.ro n = some a → ∃ xs, S[n]? = some (.ro xs)
  inj : ∀ n m a, ρ n = some a → ρ m = some a → n = m
/-- a value, a new list: nobody's, and not yet there in H₀ -/
def RepR (T : Tb) (ρ : Rho) (H₀ H : Hp) : RV → V → Prop
  | .v x, v => Rep T ρ H x v
  | .lst xs, v => ∃ a vs, v = .ref a ∧ H a = some (.lst vs) ∧ RepL T ρ H xs vs ∧ (∀ n, ρ n ≠ some a) ∧ H₀ a = none
  | .dict _, _ => False
structure EnvRep (T : Tb) (ρ : Rho) (H : Hp) (env : PEnv) (σ : L2.St) : Prop where
  len : env.length = σ.length
  get : ∀ (i : Nat) (x : PV), env[i]? = some (some x) → ∃ v : V, σ[i]? = some (some v) ∧ Rep T ρ H x v
section
variable {T : Tb} {ρ ρ' : Rho} {H H' : Hp}
theorem RepO.mono {n : Nat} {o : MO} (s : ∀ n a, ρ n = some a → ρ' n = some a) (k : Keeps H H') (hl : ∀ a vs, ρ n = some a → H a = some (.lst vs) → H' a = some (.lst vs)) (h : RepO T ρ H n o) : RepO T ρ' H' n o := by
  cases o with
  | lst xs => obtain ⟨a, vs, h1, h2, h3⟩ := h; exact ⟨a, vs, s _ _ h1, hl _ _ h1 h2, h3.mono s k⟩
  | ro xs => obtain ⟨a, vs, h1, h2, h3⟩ := h; exact ⟨a, vs, h1, h2.keep k, h3.mono s k⟩
  | dict _ => exact h
theorem Keeps.refl : Keeps H H := ⟨fun _ _ z => z, fun _ _ _ z => z⟩
theorem EnvRep.ext {env : PEnv} {σ : L2.St} (e : Ext ρ ρ' H H') (h : EnvRep T ρ H env σ) : EnvRep T ρ' H' env σ := ⟨h.len, fun i x q => let ⟨v, a, b⟩ := h.get i x q; ⟨v, a, b.ext e⟩⟩
theorem EnvRep.set {env : PEnv} {σ : L2.St} (h : EnvRep T ρ H env σ) (i : Nat) {x : PV} {v : V} (r : Rep T ρ H x v) : EnvRep T ρ H (env.set i (some x)) (σ.set i (some v)) := by
  refine ⟨by rw [List.length_set, List.length_set]; exact h.len, fun j y q => ?_⟩
  by_cases hj : i = j
  · subst hj
    by_cases hl : i < env.length
    · rw [List.getElem?_set_self hl] at q
      cases q
      exact ⟨v, by rw [List.getElem?_set_self (by rw [← h.len]; exact hl)], r⟩
    · rw [List.getElem?_eq_none (by rw [List.length_set]; omega)] at q
      cases q
  · rw [List.getElem?_set_ne hj] at q
    obtain ⟨w, a, b⟩ := h.get j y q
    exact ⟨w, by rw [List.getElem?_set_ne hj]; exact a, b⟩
theorem EnvRep.forget {env : PEnv} {σ : L2.St} (h : EnvRep T ρ H env σ) : ∀ vs : List Nat, EnvRep T ρ H (Deep.forget env vs) (wipe σ vs)
  | [] => h
  | i :: is => by
    have ih := EnvRep.forget h is
    refine ⟨by show ((Deep.forget env is).set i none).length = ((wipe σ is).set i none).length; rw [List.length_set, List.length_set]; exact ih.len, fun j y q => ?_⟩
    have q : ((Deep.forget env is).set i none)[j]? = some (some y) := q
    show ∃ v, ((wipe σ is).set i none)[j]? = some (some v) ∧ _
    by_cases hj : i = j
    · subst hj
      by_cases hl : i < (Deep.forget env is).length
      · rw [List.getElem?_set_self hl] at q; cases q
      · rw [List.getElem?_eq_none (by rw [List.length_set]; omega)] at q; cases q
    · rw [List.getElem?_set_ne hj] at q
      obtain ⟨w, a, b⟩ := ih.get j y q
      exact ⟨w, by rw [List.getElem?_set_ne hj]; exact a, b⟩
theorem RepR.shift {r : RV} {v : V} {H0 H1 : Hp} (d : ∀ a, H0 a ≠ none → H1 a ≠ none) (h : RepR T ρ H1 H r v) : RepR T ρ H0 H r v := by
  cases r with
  | v x => exact h
  | lst xs =>
    obtain ⟨a, vs, e, h1, h2, h3, h4⟩ := h
    refine ⟨a, vs, e, h1, h2, h3, ?_⟩
    cases q : H0 a with
    | none => rfl
    | some o => exact absurd h4 (d a (by rw [q]; exact fun z => nomatch z))
  | dict _ => exact h
theorem RepR.ext {r : RV} {v : V} {H0 : Hp} (e : Ext ρ ρ' H H') (h : RepR T ρ H0 H r v) : RepR T ρ' H0 H' r v := by
  cases r with
  | v x => exact Rep.ext e h
  | lst xs =>
    obtain ⟨a, vs, q, h1, h2, h3, h4⟩ := h
    refine ⟨a, vs, q, e.frame _ _ h1 h3, h2.ext e, fun n z => ?_, h4⟩
    rcases e.new n a z with z | z
    · exact h3 n z
    · rw [h1] at z; cases z
  | dict _ => exact h
theorem HRep.no {S : Store} (hh : HRep T ρ S H) {n : Nat} (h : S.length ≤ n) : ρ n = Option.none := by
  cases q : ρ n with
  | none => rfl
  | some b =>
    obtain ⟨o, e, _⟩ := hh.dom _ _ q
    rw [List.getElem?_eq_none h] at e
    cases e
/-- no place of the store lies at p, where p is new -/
theorem HRep.notAt {S : Store} {p : Addr} (hh : HRep T ρ S H) (hp : H p = none) : ∀ n, ρ n ≠ some p := fun n q => by
  obtain ⟨o, e, m⟩ := hh.dom n p q
  have z := hh.obj n o e
  cases o with
  | lst xs => obtain ⟨a, vs, h1, h2, _⟩ := z; rw [q] at h1; cases h1; rw [hp] at h2; cases h2
  | ro xs => cases m
  | dict _ => exact z
/-- a new list is laid into the store -/
theorem settle_rep {ρ0 : Rho} {H0 : Hp} {S : Store} {r : RV} {v : V} (e : Ext ρ0 ρ H0 H) (hh : HRep T ρ S H) (h : RepR T ρ H0 H r v) :
    ∃ ρ', Ext ρ0 ρ' H0 H ∧ HRep T ρ' (settle r S).2 H ∧ Rep T ρ' H (settle r S).1 v ∧ (∀ n a, ρ n = some a → ρ' n = some a) := by
  cases r with
  | v x => exact ⟨ρ, e, hh, h, fun _ _ q => q⟩
  | dict _ => exact h.elim
  | lst xs =>
    obtain ⟨a, vs, rfl, h1, h2, h3, h4⟩ := h
    have hn : ρ S.length = none := hh.no (Nat.le_refl _)
    have sub : ∀ n b, ρ n = some b → (if n = S.length then some a else ρ n) = some b := fun n b q => by
      rw [if_neg (fun z => by rw [z, hn] at q; cases q)]
      exact q
    have old : ∀ {n o}, S[n]? = some o → (S ++ [MO.lst xs])[n]? = some o := fun {n o} q => by
      rw [List.getElem?_append_left (List.getElem?_eq_some_iff.mp q).1]
      exact q
    refine ⟨fun n => if n = S.length then some a else ρ n, ⟨fun n b q => sub n b (e.sub n b q), e.tup, e.frz, e.frame, fun n b q => ?_, e.dom⟩, ⟨fun n o q => ?_, fun n b q => ?_, fun n b q => ?_, fun n m b q1 q2 => ?_⟩, .ref (if_pos rfl), sub⟩
    · have q : (if n = S.length then some a else ρ n) = some b := q
      by_cases hz : n = S.length
      · rw [if_pos hz] at q; cases q; exact .inr h4
      · rw [if_neg hz] at q; exact e.new n b q
    · have q : (S ++ [MO.lst xs])[n]? = some o := q
      by_cases hz : n = S.length
      · subst hz
        rw [List.getElem?_append_right (Nat.le_refl _), Nat.sub_self] at q
        cases q
        exact ⟨a, vs, if_pos rfl, h1, h2.mono sub Keeps.refl⟩
      · have hl : n < S.length := by
          have := (List.getElem?_eq_some_iff.mp q).1
          rw [List.length_append, List.length_singleton] at this
          omega
        rw [List.getElem?_append_left hl] at q
        exact (hh.obj n o q).mono sub Keeps.refl fun _ _ _ z => z
    · have q : (if n = S.length then some a else ρ n) = some b := q
      show ∃ o, (S ++ [MO.lst xs])[n]? = some o ∧ _
      by_cases hz : n = S.length
      · subst hz
        exact ⟨_, by rw [List.getElem?_append_right (Nat.le_refl _), Nat.sub_self]; rfl, rfl⟩
      · rw [if_neg hz] at q
        obtain ⟨o, z, m⟩ := hh.dom n b q
        exact ⟨o, old z, m⟩
    · obtain ⟨ys, z⟩ := hh.rof n b q
      exact ⟨ys, old z⟩
    · have q1 : (if n = S.length then some a else ρ n) = some b := q1
      have q2 : (if m = S.length then some a else ρ m) = some b := q2
      by_cases hz : n = S.length
      · rw [if_pos hz] at q1
        cases q1
        by_cases hy : m = S.length
        · rw [hz, hy]
        · rw [if_neg hy] at q2
          exact absurd q2 (h3 m)
      · rw [if_neg hz] at q1
        by_cases hy : m = S.length
        · rw [if_pos hy] at q2
          cases q2
          exact absurd q1 (h3 n)
        · rw [if_neg hy] at q2
          exact hh.inj n m b q1 q2
theorem HRep.lstAt {S : Store} (hh : HRep T ρ S H) {n : Nat} {xs : List PV} {v : V} (hn : S[n]? = some (.lst xs)) (r : Rep T ρ H (.ref n) v) : ∃ a vs, v = .ref a ∧ ρ n = some a ∧ H a = some (.lst vs) ∧ RepL T ρ H xs vs := by
  obtain ⟨a, vs, h1, h2, h3⟩ := hh.obj n _ hn
  cases r with
  | ref q => rw [h1] at q; cases q; exact ⟨a, vs, rfl, h1, h2, h3⟩
  | ro q =>
    obtain ⟨ys, z⟩ := hh.rof n _ q
    rw [hn] at z
    cases z
theorem HRep.roAt {S : Store} (hh : HRep T ρ S H) {n : Nat} {xs : List PV} {v : V} (hn : S[n]? = some (.ro xs)) (r : Rep T ρ H (.ref n) v) : ∃ a vs, v = .ref a ∧ RoL T.K H a vs ∧ RepL T ρ H xs vs := by
  obtain ⟨a, vs, h1, h2, h3⟩ := hh.obj n _ hn
  cases r with
  | ref q =>
    obtain ⟨o, z, m⟩ := hh.dom n _ q
    rw [hn] at z
    cases z
    cases m
  | ro q => rw [h1] at q; cases q; exact ⟨a, vs, rfl, h2, h3⟩
/-- a list of the program's own is changed -/
theorem write_rep {S : Store} {n : Nat} {xs ys : List PV} {ws : List V} {a : Addr} (hh : HRep T ρ S H) (hn : S[n]? = some (.lst xs)) (ha : ρ n = some a) (hr : RepL T ρ H ys ws) :
    Ext ρ ρ H (upd H a (.lst ws)) ∧ HRep T ρ (S.set n (.lst ys)) (upd H a (.lst ws)) := by
  obtain ⟨b, vs, q1, q2, q3⟩ := hh.obj n _ hn
  rw [ha] at q1
  cases q1
  have kp : Keeps H (upd H a (.lst ws)) := ⟨fun b us z => by rw [upd_ne (fun y => by rw [y, q2] at z; cases z)]; exact z, fun b o u z => by rw [upd_ne (fun y => by rw [y, q2] at z; cases z)]; exact z⟩
  have id' : ∀ m c, ρ m = some c → ρ m = some c := fun _ _ q => q
  have hl : n < S.length := (List.getElem?_eq_some_iff.mp hn).1
  have fw : ∀ {m : Nat} {o : MO}, S[m]? = some o → ∃ o' : MO, (S.set n (.lst ys))[m]? = some o' ∧ o'.mut = o.mut ∧ (o.mut = false → o' = o) := fun {m o} q => by
    by_cases hm : n = m
    · subst hm
      rw [hn] at q
      cases q
      exact ⟨_, List.getElem?_set_self hl, rfl, fun z => nomatch z⟩
    · exact ⟨o, by rw [List.getElem?_set_ne hm]; exact q, rfl, fun _ => rfl⟩
  refine ⟨⟨id', kp.tup, kp.frz, fun b o z hb => by rw [upd_ne (fun y => by rw [y] at hb; exact hb n ha)]; exact z, fun _ _ z => .inl z, fun b z => ?_⟩, ⟨fun m o q => ?_, fun m b q => ?_, fun m b q => ?_, hh.inj⟩⟩
  · by_cases hb : b = a
    · rw [hb, upd_same]; exact fun y => nomatch y
    · rw [upd_ne hb]; exact z
  · by_cases hm : n = m
    · subst hm
      rw [List.getElem?_set_self hl] at q
      cases q
      exact ⟨a, ws, ha, upd_same, hr.mono id' kp⟩
    · rw [List.getElem?_set_ne hm] at q
      exact (hh.obj m o q).mono id' kp fun b us y1 y2 => by
        have hb : b ≠ a := fun y => hm (hh.inj n m a ha (by rw [← y]; exact y1))
        rw [upd_ne hb]
        exact y2
  · obtain ⟨o, z, mu⟩ := hh.dom m b q
    obtain ⟨o', z1, z2, _⟩ := fw z
    exact ⟨o', z1, by rw [z2]; exact mu⟩
  · obtain ⟨zs, z⟩ := hh.rof m b q
    obtain ⟨o', z1, _, z3⟩ := fw z
    rw [z3 rfl] at z1
    exact ⟨zs, z1⟩
/-- a new object that the store does not bear -/
theorem ext_new {p : Addr} {o : HO} (hp : H p = Option.none) : Ext ρ ρ H (upd H p o) := by
  have ne : ∀ b u, H b = some u → b ≠ p := fun b u z y => by rw [y, hp] at z; cases z
  refine ⟨fun _ _ q => q, fun b xs z => by rw [upd_ne (ne _ _ z)]; exact z, fun b u w z => by rw [upd_ne (ne _ _ z)]; exact z, fun b u z _ => by rw [upd_ne (ne _ _ z)]; exact z, fun _ _ z => .inl z, fun b z => ?_⟩
  by_cases hb : b = p
  · exact absurd (by rw [hb]; exact hp) z
  · rw [upd_ne hb]; exact z
theorem HRep.new {S : Store} {p : Addr} {o : HO} (hh : HRep T ρ S H) (hp : H p = Option.none) : HRep T ρ S (upd H p o) :=
  ⟨fun n u q => (hh.obj n u q).mono (fun _ _ z => z) (ext_new (ρ := ρ) hp).keeps fun b us _ y => by rw [upd_ne (fun z => by rw [z, hp] at y; cases y)]; exact y, hh.dom, hh.rof, hh.inj⟩
end

/-! ### what is asked of an end -/
/-- an exception: its class by name, its own dict, its fields -/
def XRep (T : Tb) (ρ : Rho) (H : Hp) (x : Exc) (cls : Value) (d : Option Addr) : Prop :=
  ∃ nm fl, T.cls x.cls = some (nm, fl) ∧ cls = .ref (He.ga T.K nm) ∧ ∃ dd fs, d = some dd ∧ H dd = some (.xd fs) ∧ fl.length = x.args.length ∧
    ∀ (i : Nat) (f : Str) (y : PV), fl[i]? = some f → x.args[i]? = some y → ∃ v, fs.lookup f = some v ∧ Rep T ρ H y v
/-- kinds of what a part of the evaluator gives, and how it lies -/
structure Kind (α β : Type) where
  P : Tb → Rho → Hp → Hp → α → β → Prop
  sh : ∀ {T : Tb} {ρ : Rho} {H0 H1 H : Hp} {a : α} {b : β}, (∀ c, H0 c ≠ none → H1 c ≠ none) → P T ρ H1 H a b → P T ρ H0 H a b
def kV : Kind RV V := ⟨RepR, fun d h => h.shift d⟩
def kB : Kind Bool Bool := ⟨fun _ _ _ _ a b => a = b, fun _ h => h⟩
def kO : Kind (Option Int) (Option Int) := ⟨fun _ _ _ _ a b => a = b, fun _ h => h⟩
def kA : Kind (List PV) (List V) := ⟨fun T ρ _ H a b => RepL T ρ H a b, fun _ h => h⟩
inductive RepRs (T : Tb) (ρ : Rho) (H0 H : Hp) : List RV → List V → Prop
  | nil : RepRs T ρ H0 H [] []
  | cons {x : RV} {v : V} {xs : List RV} {vs : List V} : RepR T ρ H0 H x v → RepRs T ρ H0 H xs vs → RepRs T ρ H0 H (x :: xs) (v :: vs)
theorem RepRs.shift {T : Tb} {ρ : Rho} {H H0 H1 : Hp} (d : ∀ a, H0 a ≠ none → H1 a ≠ none) : ∀ {xs : List RV} {vs : List V}, RepRs T ρ H1 H xs vs → RepRs T ρ H0 H xs vs
  | _, _, .nil => .nil
  | _, _, .cons h t => .cons (h.shift d) (RepRs.shift d t)
theorem RepRs.ext {T : Tb} {ρ ρ' : Rho} {H0 H H' : Hp} (e : Ext ρ ρ' H H') : ∀ {xs : List RV} {vs : List V}, RepRs T ρ H0 H xs vs → RepRs T ρ' H0 H' xs vs
  | _, _, .nil => .nil
  | _, _, .cons h t => .cons (h.ext e) (RepRs.ext e t)
def kR : Kind (List RV) (List V) := ⟨RepRs, fun d h => h.shift d⟩

section
variable {α β α' β' : Type} {T : Tb} {W : WX} {σ : L2.St} {ρ ρ' : Rho} {H H' : Hp}
def Sat (T : Tb) (W : WX) (σ : L2.St) (ρ : Rho) (H : Hp) (k : Kind α β) (Q : β → Hp → Prop) : Res α → Prop
  | .ok a S => ∀ ρ' H' b, Ext ρ ρ' H H' → HRep T ρ' S H' → k.P T ρ' H H' a b → Q b H'
  | .exc x S => ∀ ρ' H' cls d, Ext ρ ρ' H H' → HRep T ρ' S H' → XRep T ρ' H' x cls d → W cls d σ H'
  | .stuck => False
theorem Sat.shift {k : Kind α β} {Q : β → Hp → Prop} {r : Res α} (e : Ext ρ ρ' H H') (h : Sat T W σ ρ H k Q r) : Sat T W σ ρ' H' k Q r := by
  cases r with
  | ok a S => exact fun ρ2 H2 b e2 hh p => h ρ2 H2 b (e.trans e2) hh (k.sh e.dom p)
  | exc x S => exact fun ρ2 H2 c d e2 hh p => h ρ2 H2 c d (e.trans e2) hh p
  | stuck => exact h
theorem Sat.bindK {k1 : Kind α β} {k2 : Kind α' β'} {Q1 : β → Hp → Prop} {Q2 : β' → Hp → Prop} {m : Res α} {f : α → Store → Res α'} (hs : Sat T W σ ρ H k2 Q2 (m.bind f))
    (h : ∀ ρ1 S1 a v H1, Ext ρ ρ1 H H1 → HRep T ρ1 S1 H1 → k1.P T ρ1 H H1 a v → Sat T W σ ρ1 H1 k2 Q2 (f a S1) → Q1 v H1) : Sat T W σ ρ H k1 Q1 m := by
  cases m with
  | ok a S => exact fun ρ1 H1 v e hh p => h ρ1 S a v H1 e hh p (hs.shift e)
  | exc x S => exact hs
  | stuck => exact hs
/-- a value that is told without a step -/
theorem Sat.done {k : Kind α β} {Q : β → Hp → Prop} {a : α} {S : Store} {b : β} (hs : Sat T W σ ρ H k Q (.ok a S)) (hh : HRep T ρ S H) (p : k.P T ρ H H a b) : Q b H := hs ρ H b Ext.refl hh p
theorem Sat.doneX {k : Kind α β} {Q : β → Hp → Prop} {a : α} {S : Store} {b : β} (hs : Sat T W σ ρ H k Q (.ok a S)) (e : Ext ρ ρ' H H') (hh : HRep T ρ' S H') (p : k.P T ρ' H H' a b) : Q b H' := hs ρ' H' b e hh p
def SatS (T : Tb) (W : WX) (ρ : Rho) (H : Hp) (D : Ends) : SR → Prop
  | .nx env S => ∀ ρ' H' σ', Ext ρ ρ' H H' → HRep T ρ' S H' → EnvRep T ρ' H' env σ' → D.nx σ' H'
  | .rt r S => ∀ ρ' H' v, Ext ρ ρ' H H' → HRep T ρ' S H' → RepR T ρ' H H' r v → D.rt v H'
  | .bk env S => ∀ ρ' H' σ', Ext ρ ρ' H H' → HRep T ρ' S H' → EnvRep T ρ' H' env σ' → D.bk σ' H'
  | .ct env S => ∀ ρ' H' σ', Ext ρ ρ' H H' → HRep T ρ' S H' → EnvRep T ρ' H' env σ' → D.ct σ' H'
  | .ex x env S => ∀ ρ' H' σ' cls d, Ext ρ ρ' H H' → HRep T ρ' S H' → EnvRep T ρ' H' env σ' → XRep T ρ' H' x cls d → W cls d σ' H'
  | .stuck => False
theorem SatS.shift {D : Ends} {r : SR} (e : Ext ρ ρ' H H') (h : SatS T W ρ H D r) : SatS T W ρ' H' D r := by
  cases r with
  | nx env S => exact fun ρ2 H2 s e2 hh p => h ρ2 H2 s (e.trans e2) hh p
  | rt r S => exact fun ρ2 H2 v e2 hh p => h ρ2 H2 v (e.trans e2) hh (p.shift e.dom)
  | bk env S => exact fun ρ2 H2 s e2 hh p => h ρ2 H2 s (e.trans e2) hh p
  | ct env S => exact fun ρ2 H2 s e2 hh p => h ρ2 H2 s (e.trans e2) hh p
  | ex x env S => exact fun ρ2 H2 s c d e2 hh p q => h ρ2 H2 s c d (e.trans e2) hh p q
  | stuck => exact h
/-- an expression within a statement -/
theorem SatS.stK {k : Kind α β} {Q : β → Hp → Prop} {D : Ends} {m : Res α} {env : PEnv} {f : α → Store → SR} (he : EnvRep T ρ H env σ) (hs : SatS T W ρ H D (m.st env f))
    (h : ∀ ρ1 S1 a v H1, Ext ρ ρ1 H H1 → HRep T ρ1 S1 H1 → k.P T ρ1 H H1 a v → SatS T W ρ1 H1 D (f a S1) → Q v H1) : Sat T W σ ρ H k Q m := by
  cases m with
  | ok a S => exact fun ρ1 H1 v e hh p => h ρ1 S a v H1 e hh p (hs.shift e)
  | exc x S => exact fun ρ1 H1 c d e hh p => hs ρ1 H1 σ c d e hh (he.ext e) p
  | stuck => exact hs

/-- the readings by the evaluator -/
def rd (T : Tb) (W : WX) (k : Kind α β) (m : PEnv → Store → Res α) : L2.St → Hp → (β → Hp → Prop) → Prop := fun σ H Q =>
  ∃ ρ S env, EnvRep T ρ H env σ ∧ HRep T ρ S H ∧ Sat T W σ ρ H k Q (m env S)
def rdS (T : Tb) (W : WX) (m : PEnv → Store → SR) : TS := fun D σ H => ∃ ρ S env, EnvRep T ρ H env σ ∧ HRep T ρ S H ∧ SatS T W ρ H D (m env S)
end
end Deep

set_option Elab.async false
set_option linter.all false
set_option maxRecDepth 100000
set_option maxHeartbeats 4000000
/-! The deep layer, 3: operators and built-ins of the evaluator are those of the machine. -/
namespace Deep
open PySem PySem.Spec PyProof.Rows L2
theorem mulOk_c {a b : Int} (h : mulOk a b = true) : CMul a b := by
  unfold mulOk at h
  rw [Bool.or_eq_true, decide_eq_true_eq, decide_eq_true_eq] at h
  unfold CMul
  omega

/-- an end without a step of the store -/
def Out (T : Tb) (ρ : Rho) (S : Store) (H : Hp) (z : RV) (Q : VK) : Prop := ∀ ρ' H' v, Ext ρ ρ' H H' → HRep T ρ' S H' → RepR T ρ' H H' z v → Q v H'
section
variable {T : Tb} {ρ : Rho} {S : Store} {H H0 H1 : Hp} {Q : VK}
theorem Out.val {x : PV} {v : V} (o : Out T ρ S H (.v x) Q) (hh : HRep T ρ S H) (r : Rep T ρ H x v) : Q v H := o ρ H v Ext.refl hh r
theorem Out.lst {xs : List PV} {vs : List V} (o : Out T ρ S H (.lst xs) Q) (hh : HRep T ρ S H) (r : RepL T ρ H xs vs) {p : Addr} (hp : H p = none) : Q (.ref p) (upd H p (.lst vs)) :=
  o ρ _ _ (ext_new hp) (hh.new hp) ⟨p, vs, rfl, upd_same, r.ext (ext_new hp), hh.notAt hp, hp⟩
theorem Out.tup {xs : List PV} {vs : List V} (o : Out T ρ S H (.v (.tup xs)) Q) (hh : HRep T ρ S H) (r : RepL T ρ H xs vs) {p : Addr} (hp : H p = none) : Q (.ref p) (upd H p (.tup vs)) :=
  o ρ _ _ (ext_new hp) (hh.new hp) (.tup (SqT.of upd_same) (r.ext (ext_new hp)))

/-! ### lists, tuples -/
theorem rdList_rep {r : RV} {v : V} {xs : List PV} (hh : HRep T ρ S H) (rr : RepR T ρ H0 H r v) (e : rdList r S = some xs) : ∃ a vs, v = .ref a ∧ SqL T.K H a vs ∧ RepL T ρ H xs vs := by
  cases r with
  | v x =>
    cases x with
    | ref n =>
      simp only [rdList] at e
      cases q : S[n]? with
      | none => rw [q] at e; cases e
      | some o =>
        rw [q] at e
        cases o with
        | lst ys => cases e; obtain ⟨a, vs, h1, h2, h3, h4⟩ := hh.lstAt q rr; exact ⟨a, vs, h1, SqL.of h3, h4⟩
        | ro ys => cases e; obtain ⟨a, vs, h1, h2, h3⟩ := hh.roAt q rr; exact ⟨a, vs, h1, h2.sq, h3⟩
        | dict _ => cases e
    | _ => cases e
  | lst ys => cases e; obtain ⟨a, vs, h1, h2, h3, _⟩ := rr; exact ⟨a, vs, h1, SqL.of h2, h3⟩
  | dict _ => cases e
theorem myList_rep {r : RV} {v : V} {xs : List PV} (hh : HRep T ρ S H) (rr : RepR T ρ H0 H r v) (e : myList r S = some xs) : ∃ a vs, v = .ref a ∧ H a = some (.lst vs) ∧ RepL T ρ H xs vs := by
  cases r with
  | v x =>
    cases x with
    | ref n =>
      simp only [myList] at e
      cases q : S[n]? with
      | none => rw [q] at e; cases e
      | some o =>
        rw [q] at e
        cases o with
        | lst ys => cases e; obtain ⟨a, vs, h1, h2, h3, h4⟩ := hh.lstAt q rr; exact ⟨a, vs, h1, h3, h4⟩
        | ro ys => cases e
        | dict _ => cases e
    | _ => cases e
  | lst ys => cases e; obtain ⟨a, vs, h1, h2, h3, _⟩ := rr; exact ⟨a, vs, h1, h2, h3⟩
  | dict _ => cases e
theorem tup_rep {xs : List PV} {v : V} (r : Rep T ρ H (.tup xs) v) : ∃ a vs, v = .ref a ∧ SqT T.K H a vs ∧ RepL T ρ H xs vs := by
  cases r with
  | tup h1 h2 => exact ⟨_, _, rfl, h1, h2⟩
theorem rdSeq_rep {r : RV} {v : V} {xs : List PV} (hh : HRep T ρ S H) (rr : RepR T ρ H0 H r v) (e : rdSeq r S = some xs) : ∃ a vs, v = .ref a ∧ (SqL T.K H a vs ∨ SqT T.K H a vs) ∧ RepL T ρ H xs vs := by
  have other : rdList r S = some xs → ∃ a vs, v = .ref a ∧ (SqL T.K H a vs ∨ SqT T.K H a vs) ∧ RepL T ρ H xs vs := fun e =>
    let ⟨a, vs, h1, h2, h3⟩ := rdList_rep hh rr e
    ⟨a, vs, h1, .inl h2, h3⟩
  cases r with
  | v x =>
    cases x with
    | tup ys => cases e; obtain ⟨a, vs, h1, h2, h3⟩ := tup_rep rr; exact ⟨a, vs, h1, .inr h2, h3⟩
    | _ => exact other e
  | _ => exact other e

/-! ### data -/
mutual
theorem Rep.dp : ∀ {x : PV} {v : V} {d : PyData}, Rep T ρ H x v → x.pd = some d → Dp T.K H v d
  | _, _, _, .non, e => by cases e; exact .non
  | _, _, _, .bool b, e => by cases e; exact .bl b
  | _, _, _, .int i, e => by cases e; exact .int i
  | _, _, _, .str s, e => by cases e; exact .str s
  | _, _, _, .ref _, e => by cases e
  | _, _, _, .ro _, e => by cases e
  | .tup xs, _, d, .tup h r, e => by
    simp only [PV.pd, Option.map_eq_some_iff] at e
    obtain ⟨ds, e, rfl⟩ := e
    exact .tup h (RepL.dp r e)
theorem RepL.dp : ∀ {xs : List PV} {vs : List V} {ds : List PyData}, RepL T ρ H xs vs → PV.pdL xs = some ds → DpAll T.K H vs ds
  | _, _, _, .nil, e => by cases e; exact .nil
  | x :: xs, _, ds, .cons h r, e => by
    simp only [PV.pdL] at e
    cases q : x.pd with
    | none => rw [q] at e; cases e
    | some d =>
      cases q2 : PV.pdL xs with
      | none => rw [q, q2] at e; cases e
      | some ds' =>
        rw [q, q2] at e
        cases e
        exact .cons (h.dp q) (RepL.dp r q2)
end
theorem rvPD_rep {r : RV} {v : V} {d : PyData} (hh : HRep T ρ S H) (rr : RepR T ρ H0 H r v) (e : rvPD r S = some d) : Dp T.K H v d := by
  have L : ∀ {xs : List PV}, rdList r S = some xs → (PV.pdL xs).map PyData.list = some d → Dp T.K H v d := fun {xs} e1 e2 => by
    obtain ⟨a, vs, rfl, h2, h3⟩ := rdList_rep hh rr e1
    obtain ⟨ds, e3, rfl⟩ := Option.map_eq_some_iff.mp e2
    exact .lst h2 (h3.dp e3)
  cases r with
  | v x =>
    cases x with
    | ref n =>
      simp only [rvPD] at e
      cases q : S[n]? with
      | none => rw [q] at e; cases e
      | some o =>
        rw [q] at e
        cases o with
        | lst ys => exact L (by simp only [rdList, q]) e
        | ro ys => exact L (by simp only [rdList, q]) e
        | dict _ => cases e
    | _ => exact Rep.dp rr e
  | lst ys => exact L rfl e
  | dict _ => cases e
theorem flat_rep {x : PV} {v : V} (r : Rep T ρ H x v) (f : flatP x = true) : v = x.fv ∧ flatV v = true := by
  cases r <;> first | exact ⟨rfl, rfl⟩ | cases f
theorem flats_rep : ∀ {xs : List PV} {vs : List V}, RepL T ρ H xs vs → xs.all flatP = true → vs = xs.map PV.fv ∧ vs.all flatV = true
  | _, _, .nil, _ => ⟨rfl, rfl⟩
  | x :: xs, _, .cons h r, f => by
    simp only [List.all_cons, Bool.and_eq_true] at f
    obtain ⟨h1, h2⟩ := flat_rep h f.1
    obtain ⟨h3, h4⟩ := flats_rep r f.2
    exact ⟨by rw [h1, h3, List.map_cons], by rw [List.all_cons, h2, h4]; rfl⟩
end

/-! ### binary operators -/
def BOp.py : BOp → Operator
  | .add => .Add | .sub => .Sub | .mul => .Mult | .fdiv => .FloorDiv | .mod => .Mod | .pow => .Pow
def rBin (K : PySem.W.Frag) : BOp → R2
  | .add => fun x y H Q => rI0 (fun i j => .int (i + j)) x y H Q ∨ (∃ i j, x = .str i ∧ y = .str j ∧ i.length + j.length ≤ sizeLine ∧ Q (.str (i ++ j)) H) ∨ rCatA K x y H Q ∨ rCat x y H Q
  | .sub => rI0 fun i j => .int (i - j)
  | .mul => rI CMul fun i j => .int (i * j)
  | .fdiv => rI CDiv fun i j => .int (i / j)
  | .mod => rI (fun _ j => 0 < j) fun i j => .int (i % j)
  | .pow => rI CPow fun i j => .int (i ^ j.toNat)
theorem bin_op {X : Cx} (op : BOp) : OpR X (binaryOp op.py) (rBin X.K op) := by
  cases op with
  | add => exact op_add.or (op_add_str.or (op_catA.or op_cat))
  | sub => exact op_sub
  | mul => exact op_mul
  | fdiv => exact op_fdiv
  | mod => exact op_mod
  | pow => exact op_pow
section
variable {T : Tb} {ρ : Rho} {S : Store} {H H0 H1 : Hp} {Q : VK} {x y z : RV} {vx vy : V}
theorem int_rep {i : Int} {v : V} {H0 : Hp} (r : RepR T ρ H0 H (.v (.int i)) v) : v = .int i := by cases r; rfl
theorem str_rep {i : Str} {v : V} {H0 : Hp} (r : RepR T ρ H0 H (.v (.str i)) v) : v = .str i := by cases r; rfl
theorem cat_ok {a b : List PV} (hh : HRep T ρ S H) (rx : RepR T ρ H0 H x vx) (ry : RepR T ρ H1 H y vy) (ha : myList x S = some a) (hb : myList y S = some b) (hl : a.length + b.length ≤ sizeLine) (o : Out T ρ S H (.lst (a ++ b)) Q) : rCat vx vy H Q := by
  obtain ⟨p, vs, rfl, h1, h2⟩ := myList_rep hh rx ha
  obtain ⟨q, ws, rfl, h3, h4⟩ := myList_rep hh ry hb
  exact ⟨p, q, vs, ws, rfl, rfl, h1, h3, by rw [← h2.length, ← h4.length]; exact hl, fun p hp => o.lst hh (h2.append h4) hp⟩
theorem bin_ok (op : BOp) (hh : HRep T ρ S H) (rx : RepR T ρ H0 H x vx) (ry : RepR T ρ H1 H y vy) (e : binRV op x y S = some z) (o : Out T ρ S H z Q) : rBin T.K op vx vy H Q := by
  have I2 : ∀ {f : Int → Int → Int}, (∃ a b, x = .v (.int a) ∧ y = .v (.int b) ∧ z = .v (.int (f a b))) → rI0 (fun i j => .int (f i j)) vx vy H Q := fun {f} ⟨a, b, e1, e2, e3⟩ => by
    subst e1; subst e2; subst e3
    exact ⟨a, b, int_rep rx, int_rep ry, o.val hh (.int _)⟩
  have I3 : ∀ {C : Int → Int → Prop} {f : Int → Int → Int}, (∃ a b, x = .v (.int a) ∧ y = .v (.int b) ∧ C a b ∧ z = .v (.int (f a b))) → rI C (fun i j => .int (f i j)) vx vy H Q := fun {C f} ⟨a, b, e1, e2, c, e3⟩ => by
    subst e1; subst e2; subst e3
    exact ⟨a, b, int_rep rx, int_rep ry, c, o.val hh (.int _)⟩
  cases op with
  | add =>
    simp only [binRV] at e
    split at e
    · rename_i a b
      cases e
      exact .inl (I2 ⟨_, _, rfl, rfl, rfl⟩)
    · rename_i a b
      split at e
      · rename_i hl
        cases e
        exact .inr (.inl ⟨a, b, str_rep rx, str_rep ry, hl, o.val hh (.str _)⟩)
      · cases e
    · rename_i a b
      split at e
      · rename_i hl
        cases e
        obtain ⟨p, vs, rfl, h1, h2⟩ := tup_rep rx
        obtain ⟨q, ws, rfl, h3, h4⟩ := tup_rep ry
        refine .inr (.inr (.inl ⟨p, q, vs, ws, rfl, rfl, h1, h3, by rw [← h2.length, ← h4.length]; exact hl, fun e0 => ?_, fun _ e0 => ?_, fun _ _ r hr => o.tup hh (h2.append h4) hr⟩))
        · subst e0
          cases h2
          exact o.val hh (.tup h3 h4)
        · subst e0
          cases h4
          rw [List.append_nil] at o
          exact o.val hh (.tup h1 h2)
      · cases e
    · cases ha : myList x S with
      | none => rw [ha] at e; cases e
      | some a =>
        cases hb : myList y S with
        | none => rw [ha, hb] at e; cases e
        | some b =>
          rw [ha, hb] at e
          simp only at e
          split at e
          · rename_i hl
            cases e
            exact .inr (.inr (.inr (cat_ok hh rx ry ha hb hl o)))
          · cases e
  | sub =>
    simp only [binRV] at e
    split at e
    · cases e; exact I2 ⟨_, _, rfl, rfl, rfl⟩
    · cases e
  | mul =>
    simp only [binRV] at e
    split at e
    · rename_i a b
      split at e
      · rename_i hc
        cases e
        refine I3 ⟨_, _, rfl, rfl, ?_, rfl⟩
        exact mulOk_c hc
      · cases e
    · cases e
  | fdiv =>
    simp only [binRV] at e
    split at e
    · split at e
      · rename_i hc
        cases e
        exact I3 ⟨_, _, rfl, rfl, ⟨hc.1, by omega⟩, rfl⟩
      · cases e
    · cases e
  | mod =>
    simp only [binRV] at e
    split at e
    · split at e
      · rename_i hc
        cases e
        exact I3 ⟨_, _, rfl, rfl, hc, rfl⟩
      · cases e
    · cases e
  | pow =>
    simp only [binRV] at e
    split at e
    · split at e
      · rename_i hc
        cases e
        exact I3 ⟨_, _, rfl, rfl, ⟨hc.1, by omega, hc.2.2⟩, rfl⟩
      · cases e
    · cases e
end

/-! ### comparisons -/
def CO.py : CO → CmpOp
  | .eq => .Eq | .ne => .NotEq | .lt => .Lt | .le => .LtE | .gt => .Gt | .ge => .GtE | .mem => .In | .nmem => .NotIn | .is => .Is | .isnt => .IsNot
/-- what is not a truth value is none -/
def notB : V → Bool
  | .bl _ => false
  | _ => true
theorem op_is_b {X : Cx} : OpR X (compareOp .Is) (fun x y H Q => notB x = true ∧ (∃ b, y = .bl b) ∧ Q (.bl false) H) := by
  intro pins s σ H x y v u Q I rx ry h
  obtain ⟨h1, ⟨b, rfl⟩, q⟩ := h
  cases (show u = Value.bool b from ry)
  have hne : v ≠ .bool b := fun z => by
    subst z
    cases x <;> first | (cases h1; done) | (cases rx; done) | (obtain ⟨t, z⟩ := rx; cases z; done)
  have hp : plainIs v (.bool b) = true := by
    cases x <;> first | (cases rx; rfl) | (obtain ⟨t, rfl⟩ := rx; rfl) | (cases h1; done)
  exact wpAny_is_other hp hne ⟨.bl false, H, I, rfl, q⟩
theorem op_isnt_b {X : Cx} : OpR X (compareOp .IsNot) (fun x y H Q => notB x = true ∧ (∃ b, y = .bl b) ∧ Q (.bl true) H) := by
  intro pins s σ H x y v u Q I rx ry h
  obtain ⟨h1, ⟨b, rfl⟩, q⟩ := h
  cases (show u = Value.bool b from ry)
  have hne : v ≠ .bool b := fun z => by
    subst z
    cases x <;> first | (cases h1; done) | (cases rx; done) | (obtain ⟨t, z⟩ := rx; cases z; done)
  have hp : plainIs v (.bool b) = true := by
    cases x <;> first | (cases rx; rfl) | (obtain ⟨t, rfl⟩ := rx; rfl) | (cases h1; done)
  exact wpAny_isNot_other hp hne ⟨.bl true, H, I, rfl, q⟩
def rCmp (K : PySem.W.Frag) : CO → R2
  | .eq => fun x y H Q => (∃ i j, x = .str i ∧ y = .str j ∧ Q (.bl (decide (i = j))) H) ∨ rEqD K x y H Q
  | .ne => fun x y H Q => (∃ i j, x = .str i ∧ y = .str j ∧ Q (.bl (!decide (i = j))) H) ∨ rNeD K x y H Q
  | .lt => fun x y H Q => rI0 (fun i j => .bl (decide (i < j))) x y H Q ∨ ∃ i j, x = .str i ∧ y = .str j ∧ Q (.bl (decide (i.cps.toList < j.cps.toList))) H
  | .le => fun x y H Q => rI0 (fun i j => .bl (decide (i ≤ j))) x y H Q ∨ ∃ i j, x = .str i ∧ y = .str j ∧ Q (.bl (!decide (j.cps.toList < i.cps.toList))) H
  | .gt => fun x y H Q => rI0 (fun i j => .bl (decide (j < i))) x y H Q ∨ ∃ i j, x = .str i ∧ y = .str j ∧ Q (.bl (decide (j.cps.toList < i.cps.toList))) H
  | .ge => rI0 fun i j => .bl (decide (j ≤ i))
  | .mem => fun x y H Q => (∃ (c : Nat) (z : Str), x = .str ⟨#[c]⟩ ∧ y = .str z ∧ Q (.bl (decide (c ∈ z.cps.toList))) H) ∨ (∃ i j, x = .str i ∧ y = .str j ∧ Q (.bl (!(Builtin.Str.occurrences j i 0 j.length 1).isEmpty)) H) ∨ rIn K false x y H Q
  | .nmem => fun x y H Q => (∃ (c : Nat) (z : Str), x = .str ⟨#[c]⟩ ∧ y = .str z ∧ Q (.bl (!decide (c ∈ z.cps.toList))) H) ∨ (∃ i j, x = .str i ∧ y = .str j ∧ Q (.bl (!(!(Builtin.Str.occurrences j i 0 j.length 1).isEmpty))) H) ∨ rIn K true x y H Q
  | .is => fun x y H Q => (y = .non ∧ Q (.bl (decide (x = .non))) H) ∨ rIsB x y H Q ∨ (notB x = true ∧ (∃ b, y = .bl b) ∧ Q (.bl false) H)
  | .isnt => fun x y H Q => (y = .non ∧ Q (.bl (!decide (x = .non))) H) ∨ rNotB x y H Q ∨ (notB x = true ∧ (∃ b, y = .bl b) ∧ Q (.bl true) H)
theorem dec_str {i j : Str} : decide (V.str i = V.str j) = decide (i = j) := by
  by_cases h : i = j
  · subst h; rw [decide_eq_true rfl, decide_eq_true rfl]
  · rw [decide_eq_false h, decide_eq_false fun z => h (V.str.inj z)]
theorem op_eqStr {X : Cx} : OpR X (compareOp .Eq) fun x y H Q => ∃ i j, x = .str i ∧ y = .str j ∧ Q (.bl (decide (i = j))) H := by
  intro pins s σ H x y v u Q I rx ry h
  obtain ⟨i, j, rfl, rfl, q⟩ := h
  exact op_eq pins s σ H _ _ v u Q I rx ry ⟨rfl, by rw [dec_str]; exact q⟩
theorem op_neStr {X : Cx} : OpR X (compareOp .NotEq) fun x y H Q => ∃ i j, x = .str i ∧ y = .str j ∧ Q (.bl (!decide (i = j))) H := by
  intro pins s σ H x y v u Q I rx ry h
  obtain ⟨i, j, rfl, rfl, q⟩ := h
  exact op_ne pins s σ H _ _ v u Q I rx ry ⟨rfl, by rw [dec_str]; exact q⟩
theorem cmp_op {X : Cx} (hu : X.A.units + 64 < cLine) (op : CO) : OpR X (compareOp op.py) (rCmp X.K op) := by
  cases op with
  | eq => exact op_eqStr.or (op_eqD hu)
  | ne => exact op_neStr.or (op_neD hu)
  | lt => exact op_lt.or op_lt_str
  | le => exact op_le.or op_le_str
  | gt => exact op_gt.or op_gt_str
  | ge => exact op_ge
  | mem => exact op_in_sign.or (op_in_str.or op_in_seq)
  | nmem => exact op_notIn_sign.or (op_notIn_str.or op_notIn_seq)
  | is => exact op_isN.or (op_isBl.or op_is_b)
  | isnt => exact op_notN.or (op_notBl.or op_isnt_b)
section
variable {T : Tb} {ρ : Rho} {S : Store} {H H0 H1 : Hp} {Q : VK} {x y : RV} {vx vy : V} {k : Bool}
theorem is_rep (rx : RepR T ρ H0 H x vx) (ry : RepR T ρ H1 H y vy) (e : isRV x y = some k) : (vy = .non ∧ decide (vx = .non) = k) ∨ (∃ a b : Bool, vx = .bl a ∧ vy = .bl b ∧ decide (a = b) = k) ∨ (notB vx = true ∧ (∃ b, vy = .bl b) ∧ k = false) := by
  have nn : ∀ {x : PV} {v : V}, Rep T ρ H x v → (decide (v = .non) = decide (x = .non)) := fun {x v} r => by
    cases r <;> first | rfl | (rw [decide_eq_false (by intro z; cases z), decide_eq_false (by intro z; cases z)])
  unfold isRV at e
  split at e
  · cases e; cases ry; exact .inl ⟨rfl, nn rx⟩
  · cases e; cases rx; cases ry; exact .inr (.inl ⟨_, _, rfl, rfl, rfl⟩)
  · cases e; cases rx; cases ry; exact .inr (.inr ⟨rfl, ⟨_, rfl⟩, rfl⟩)
  · cases e; cases rx; cases ry; exact .inr (.inr ⟨rfl, ⟨_, rfl⟩, rfl⟩)
  · cases e; cases rx; cases ry; exact .inr (.inr ⟨rfl, ⟨_, rfl⟩, rfl⟩)
  · cases e; cases rx; cases ry; exact .inr (.inr ⟨rfl, ⟨_, rfl⟩, rfl⟩)
  · cases e; cases ry; cases rx <;> exact .inr (.inr ⟨rfl, ⟨_, rfl⟩, rfl⟩)
  · cases e; cases ry; obtain ⟨a, vs, rfl, _⟩ := rx; exact .inl ⟨rfl, by rw [decide_eq_false]; intro z; cases z⟩
  · cases e; cases ry; obtain ⟨a, vs, rfl, _⟩ := rx; exact .inr (.inr ⟨rfl, ⟨_, rfl⟩, rfl⟩)
  · exact rx.elim
  · exact rx.elim
  · cases e
theorem mem_rep (hh : HRep T ρ S H) (rx : RepR T ρ H0 H x vx) (ry : RepR T ρ H1 H y vy) (e : memRV x y S = some k) :
    (∃ (c : Nat) (z : Str), vx = .str ⟨#[c]⟩ ∧ vy = .str z ∧ decide (c ∈ z.cps.toList) = k) ∨ (∃ i j, vx = .str i ∧ vy = .str j ∧ (!(Builtin.Str.occurrences j i 0 j.length 1).isEmpty) = k) ∨
      ∃ p xs, vy = .ref p ∧ (SqL T.K H p xs ∨ SqT T.K H p xs) ∧ flatV vx = true ∧ xs.all flatV = true ∧ inV vx xs = k := by
  unfold memRV at e
  split at e
  · rename_i a b
    cases e
    cases rx; cases ry
    unfold inStr
    split
    · rename_i c hc
      refine .inl ⟨c, b, ?_, rfl, rfl⟩
      congr 1
      apply Str.ext'
      apply Array.toList_inj.mp
      rw [hc]
    · exact .inr (.inl ⟨a, b, rfl, rfl, rfl⟩)
  · rename_i a hne
    cases q : rdSeq y S with
    | none => rw [q] at e; cases e
    | some ys =>
      rw [q] at e
      simp only at e
      split at e
      · rename_i hf
        rw [Bool.and_eq_true] at hf
        cases e
        obtain ⟨p, vs, rfl, h1, h2⟩ := rdSeq_rep hh ry q
        obtain ⟨e1, e2⟩ := flat_rep rx hf.1
        obtain ⟨e3, e4⟩ := flats_rep h2 hf.2
        refine .inr (.inr ⟨p, vs, rfl, h1, e2, e4, ?_⟩)
        rw [e3, e1]
        unfold inV
        rw [List.any_map]
        rfl
      · cases e
  · cases e
theorem cmp_ok (op : CO) (hh : HRep T ρ S H) (rx : RepR T ρ H0 H x vx) (ry : RepR T ρ H1 H y vy) (e : cmpRV op x y S = some k) (q : Q (.bl k) H) : rCmp T.K op vx vy H Q := by
  have I2 : ∀ {f : Int → Int → Bool}, (∃ a b, x = .v (.int a) ∧ y = .v (.int b) ∧ f a b = k) → rI0 (fun i j => .bl (f i j)) vx vy H Q := fun {f} ⟨a, b, e1, e2, e3⟩ => by
    subst e1; subst e2; subst e3
    exact ⟨a, b, int_rep rx, int_rep ry, q⟩
  have S2 : ∀ {f : Str → Str → Bool}, (∃ a b, x = .v (.str a) ∧ y = .v (.str b) ∧ f a b = k) → ∃ i j, vx = .str i ∧ vy = .str j ∧ Q (.bl (f i j)) H := fun {f} ⟨a, b, e1, e2, e3⟩ => by
    subst e1; subst e2; subst e3
    exact ⟨a, b, str_rep rx, str_rep ry, q⟩
  have E2 : ∀ {k : Bool}, eqRV x y S = some k → ∃ d e, Dp T.K H vx d ∧ Dp T.K H vy e ∧ SeqAt.shaped d = true ∧ SeqAt.shaped e = true ∧ PyData.eqv d e = k := fun {k} e => by
    unfold eqRV at e
    split at e
    · rename_i d d' h1 h2
      split at e
      · rename_i hs
        rw [Bool.and_eq_true] at hs
        cases e
        exact ⟨d, d', rvPD_rep hh rx h1, rvPD_rep hh ry h2, hs.1, hs.2, rfl⟩
      · cases e
    · cases e
  cases op with
  | eq =>
    simp only [cmpRV] at e
    split at e
    · cases e; exact .inl (S2 (f := fun i j => decide (i = j)) ⟨_, _, rfl, rfl, rfl⟩)
    · obtain ⟨d, d', h1, h2, h3, h4, h5⟩ := E2 e; exact .inr ⟨d, d', h1, h2, h3, h4, by rw [h5]; exact q⟩
  | ne =>
    simp only [cmpRV] at e
    split at e
    · cases e; exact .inl (S2 (f := fun i j => !decide (i = j)) ⟨_, _, rfl, rfl, rfl⟩)
    · obtain ⟨k', e', rfl⟩ := Option.map_eq_some_iff.mp e
      obtain ⟨d, d', h1, h2, h3, h4, h5⟩ := E2 e'
      exact .inr ⟨d, d', h1, h2, h3, h4, by rw [h5]; exact q⟩
  | lt =>
    simp only [cmpRV] at e
    split at e
    · cases e; exact .inl (I2 ⟨_, _, rfl, rfl, rfl⟩)
    · cases e; exact .inr (S2 (f := fun i j => decide (i.cps.toList < j.cps.toList)) ⟨_, _, rfl, rfl, rfl⟩)
    · cases e
  | le =>
    simp only [cmpRV] at e
    split at e
    · cases e; exact .inl (I2 ⟨_, _, rfl, rfl, rfl⟩)
    · cases e; exact .inr (S2 (f := fun i j => !decide (j.cps.toList < i.cps.toList)) ⟨_, _, rfl, rfl, rfl⟩)
    · cases e
  | gt =>
    simp only [cmpRV] at e
    split at e
    · cases e; exact .inl (I2 ⟨_, _, rfl, rfl, rfl⟩)
    · cases e; exact .inr (S2 (f := fun i j => decide (j.cps.toList < i.cps.toList)) ⟨_, _, rfl, rfl, rfl⟩)
    · cases e
  | ge =>
    simp only [cmpRV] at e
    split at e
    · cases e; exact I2 ⟨_, _, rfl, rfl, rfl⟩
    · cases e
  | mem =>
    rcases mem_rep hh rx ry e with ⟨c, z, h1, h2, rfl⟩ | ⟨i, j, h1, h2, rfl⟩ | ⟨p, xs, h1, h2, h3, h4, rfl⟩
    · exact .inl ⟨c, z, h1, h2, q⟩
    · exact .inr (.inl ⟨i, j, h1, h2, q⟩)
    · exact .inr (.inr ⟨p, xs, h1, h2, h3, h4, q⟩)
  | nmem =>
    obtain ⟨k', e', rfl⟩ := Option.map_eq_some_iff.mp e
    rcases mem_rep hh rx ry e' with ⟨c, z, h1, h2, rfl⟩ | ⟨i, j, h1, h2, rfl⟩ | ⟨p, xs, h1, h2, h3, h4, rfl⟩
    · exact .inl ⟨c, z, h1, h2, q⟩
    · exact .inr (.inl ⟨i, j, h1, h2, q⟩)
    · exact .inr (.inr ⟨p, xs, h1, h2, h3, h4, q⟩)
  | is =>
    rcases is_rep rx ry e with ⟨h1, rfl⟩ | ⟨a, b, h1, h2, rfl⟩ | ⟨h1, h2, rfl⟩
    · exact .inl ⟨h1, q⟩
    · exact .inr (.inl ⟨a, b, h1, h2, q⟩)
    · exact .inr (.inr ⟨h1, h2, q⟩)
  | isnt =>
    obtain ⟨k', e', rfl⟩ := Option.map_eq_some_iff.mp e
    rcases is_rep rx ry e' with ⟨h1, rfl⟩ | ⟨a, b, h1, h2, rfl⟩ | ⟨h1, h2, rfl⟩
    · exact .inl ⟨h1, q⟩
    · exact .inr (.inl ⟨a, b, h1, h2, q⟩)
    · exact .inr (.inr ⟨h1, h2, q⟩)
theorem truthy_ok (hh : HRep T ρ S H) (rx : RepR T ρ H0 H x vx) (e : truthy x S = some k) : TruV T.K vx H k := by
  unfold truthy at e
  split at e
  · cases e; cases rx; rfl
  · cases e; cases rx; rfl
  · cases e; cases rx; rfl
  · split at e
    · rename_i hl; cases e; cases rx; exact ⟨hl, rfl⟩
    · cases e
  · cases e
    obtain ⟨a, vs, rfl, h1, h2⟩ := tup_rep rx
    exact .inr (.inl ⟨vs, h1, by rw [h2.isEmpty]⟩)
  · rename_i n
    cases q : S[n]? with
    | none => rw [q] at e; cases e
    | some o =>
      rw [q] at e
      cases o with
      | lst xs => cases e; obtain ⟨a, vs, rfl, h1, h2⟩ := rdList_rep hh rx (by simp only [rdList, q]; rfl); exact .inl ⟨vs, h1, by rw [h2.isEmpty]⟩
      | ro xs => cases e; obtain ⟨a, vs, rfl, h1, h2⟩ := rdList_rep hh rx (by simp only [rdList, q]; rfl); exact .inl ⟨vs, h1, by rw [h2.isEmpty]⟩
      | dict _ => cases e
  · cases e
    obtain ⟨a, vs, rfl, h1, h2, _⟩ := rx
    exact .inl ⟨vs, SqL.of h1, by rw [h2.isEmpty]⟩
  · cases e
end
end Deep

set_option Elab.async false
set_option linter.all false
set_option maxRecDepth 100000
set_option maxHeartbeats 4000000
namespace Deep
open PySem PySem.Spec PyProof.Rows L2
section
variable {T : Tb} {ρ : Rho} {S : Store} {H H0 H1 : Hp} {Q : VK} {x y z : RV} {vx vy : V}
/-! ### items, slices -/
theorem ix_ok (hh : HRep T ρ S H) (rx : RepR T ρ H0 H x vx) (ry : RepR T ρ H1 H y vy) (e : ixRV x y S = some z) (o : Out T ρ S H z Q) : rIx T.K vx vy H Q := by
  unfold ixRV at e
  split at e
  · rename_i t i
    split at e
    · rename_i hl
      obtain ⟨c, hc, rfl⟩ := Option.map_eq_some_iff.mp e
      cases rx; cases ry
      exact .inr (.inr ⟨t, i, c, rfl, rfl, hl, hc, o.val hh (.str _)⟩)
    · cases e
  · rename_i i hne
    cases q : rdSeq x S with
    | none => rw [q] at e; cases e
    | some xs =>
      rw [q] at e
      obtain ⟨w, hw, rfl⟩ := Option.map_eq_some_iff.mp e
      cases ry
      obtain ⟨a, vs, rfl, h1, h2⟩ := rdSeq_rep hh rx q
      obtain ⟨v, h3, h4⟩ := h2.atI hw
      rcases h1 with h1 | h1
      · exact .inl ⟨a, vs, i, v, rfl, rfl, h1, h3, o.val hh h4⟩
      · exact .inr (.inl ⟨a, vs, i, v, rfl, rfl, h1, h3, o.val hh h4⟩)
  · cases e
def rSl (K : PySem.W.Frag) : V → Option Int → Option Int → Hp → VK → Prop := fun x lo hi H Q => rSlS x lo hi H Q ∨ rSlA K x lo hi H Q ∨ rSlL K x lo hi H Q
theorem sl_op {X : Cx} : SlR X (rSl X.K) := sl_str.or (sl_tupA.or sl_list)
theorem cutP_all {xs : List PV} {lo hi : Option Int} (h : HT.sIx xs.length 0 lo = 0 ∧ HT.sIx xs.length xs.length hi = xs.length) : cutP xs lo hi = xs := by
  unfold cutP
  rw [h.1, h.2, List.drop_zero, Nat.sub_zero, List.take_length]
theorem sl_ok {lo hi : Option Int} (hh : HRep T ρ S H) (rx : RepR T ρ H0 H x vx) (e : slRV x lo hi S = some z) (o : Out T ρ S H z Q) : rSl T.K vx lo hi H Q := by
  unfold slRV at e
  split at e
  · rename_i t
    split at e
    · rename_i hl; cases e; cases rx; exact .inl ⟨t, rfl, hl, o.val hh (.str _)⟩
    · cases e
  · rename_i xs
    cases e
    obtain ⟨a, vs, rfl, h1, h2⟩ := tup_rep rx
    refine .inr (.inl ⟨a, vs, rfl, h1, fun hw => ?_, fun _ p hp => ?_⟩)
    · rw [← h2.length] at hw
      rw [cutP_all hw] at o
      exact o.val hh (.tup h1 h2)
    · exact o.tup hh (h2.cut lo hi) hp
  · cases q : rdList x S with
    | none => rw [q] at e; cases e
    | some xs =>
      rw [q] at e
      cases e
      obtain ⟨a, vs, rfl, h1, h2⟩ := rdList_rep hh rx q
      exact .inr (.inr ⟨a, vs, rfl, h1, fun p hp => o.lst hh (h2.cut lo hi) hp⟩)

/-! ### built-ins -/
theorem ints_rep : ∀ {xs : List PV} {vs : List V} {ns : List Int}, RepL T ρ H xs vs → ints? xs = some ns → vs = ns.map V.int
  | _, _, _, .nil, e => by cases e; rfl
  | x :: xs, _, ns, .cons h r, e => by
    cases x with
    | int i =>
      simp only [ints?, Option.map_eq_some_iff] at e
      obtain ⟨ms, e, rfl⟩ := e
      cases h
      rw [ints_rep r e, List.map_cons]
    | _ => cases e
theorem strs_rep : ∀ {xs : List PV} {vs : List V} {ns : List Str}, RepL T ρ H xs vs → strs? xs = some ns → vs = ns.map V.str
  | _, _, _, .nil, e => by cases e; rfl
  | x :: xs, _, ns, .cons h r, e => by
    cases x with
    | str i =>
      simp only [strs?, Option.map_eq_some_iff] at e
      obtain ⟨ms, e, rfl⟩ := e
      cases h
      rw [strs_rep r e, List.map_cons]
    | _ => cases e
theorem bools_rep : ∀ {xs : List PV} {vs : List V} {ns : List Bool}, RepL T ρ H xs vs → bools? xs = some ns → vs = ns.map V.bl
  | _, _, _, .nil, e => by cases e; rfl
  | x :: xs, _, ns, .cons h r, e => by
    cases x with
    | bool i =>
      simp only [bools?, Option.map_eq_some_iff] at e
      obtain ⟨ms, e, rfl⟩ := e
      cases h
      rw [bools_rep r e, List.map_cons]
    | _ => cases e
def Bi.name : Bi → Str
  | .len => "len" | .int => "int" | .str => "str" | .tuple => "tuple" | .list => "list" | .bool => "bool" | .sum => "sum" | .all => "all" | .any => "any" | .ord => "ord"
/-- a built-in class, or a built-in function -/
def Bi.ty : Bi → Option String
  | .int => some "int" | .str => some "str" | .tuple => some "tuple" | .list => some "list" | .bool => some "bool"
  | _ => none
def Bi.id : Bi → String
  | .len => "len" | .sum => "sum" | .all => "all" | .any => "any" | .ord => "ord"
  | _ => ""
def Bi.val (b : Bi) : Value := match b.ty with
  | some t => .type t
  | none => .builtin b.id
theorem Bi.boot (b : Bi) : bootBuiltins b.name = some b.val := by
  cases b
  · exact PySem.boot_len
  · exact PyProof.Rows.boot_int
  · exact PyProof.Rows.boot_str
  · exact PyProof.Rows.boot_tuple
  · exact PyProof.Rows.boot_list
  · exact PyProof.Rows.boot_bool
  · exact PyProof.Rows.boot_sum
  · exact PyProof.Rows.boot_all
  · exact PyProof.Rows.boot_any
  · exact PyProof.Rows.boot_ord
def rBi (K : PySem.W.Frag) : Bi → List V → Hp → VK → Prop
  | .len => fun xs H Q => (∃ z, xs = [.str z] ∧ z.length ≤ sizeLine ∧ Q (.int z.length) H) ∨ (∃ p ys, xs = [.ref p] ∧ (SqL K H p ys ∨ SqT K H p ys) ∧ Q (.int ys.length) H)
  | .int => fun xs H Q => ((∃ i, xs = [.int i] ∧ Q (.int i) H) ∨ ∃ k, xs = [.bl k] ∧ Q (.int (if k then 1 else 0)) H) ∨ (∃ a n, xs = [.str a] ∧ PySem.intText? a = some n ∧ a.length ≤ 640 ∧ Q (.int n) H)
  | .str => fun xs H Q => ∃ i, xs = [.int i] ∧ i.natAbs.log2 < 1920 ∧ Q (.str (toString i)) H
  | .tuple => fun xs H Q => ∃ p ys, xs = [.ref p] ∧ ((SqL K H p ys ∧ ∀ l, H l = none → Q (.ref l) (upd H l (.tup ys))) ∨ (SqT K H p ys ∧ Q (.ref p) H))
  | .list => fun xs H Q => ∃ p ys, xs = [.ref p] ∧ (SqL K H p ys ∨ SqT K H p ys) ∧ ∀ l, H l = none → Q (.ref l) (upd H l (.lst ys))
  | .bool => fun xs H Q => (∃ i, xs = [.int i] ∧ Q (.bl (i != 0)) H) ∨ ∃ k, xs = [.bl k] ∧ Q (.bl k) H
  | .sum => rSum K
  | .all => rAll K
  | .any => rAny K
  | .ord => fun xs H Q => ∃ x, xs = [.str x] ∧ x.length = 1 ∧ Q (.int (x.cps.getD 0 0 : Nat)) H
theorem bi_call {X : Cx} (hc : X.calm = true) (b : Bi) : CallR X b.val (rBi X.K b) := by
  cases b with
  | len => exact call_len_str.or call_len_seq
  | int => exact call_int1.or call_int_str
  | str => exact call_str_int
  | tuple => exact call_tuple_of
  | list => exact call_list_of
  | bool => exact call_bool1
  | sum => exact cr_sum hc
  | all => exact cr_all hc
  | any => exact cr_any hc
  | ord => exact call_ord
theorem rs1 {r : RV} {vs : List V} (h : RepRs T ρ H0 H [r] vs) : ∃ v, vs = [v] ∧ RepR T ρ H0 H r v := by
  cases h with
  | cons h t => cases t; exact ⟨_, rfl, h⟩
theorem bi_ok (b : Bi) {rs : List RV} {vs : List V} (hh : HRep T ρ S H) (rr : RepRs T ρ H0 H rs vs) (e : biRV b rs S = some z) (o : Out T ρ S H z Q) : rBi T.K b vs H Q := by
  unfold biRV at e
  split at e
  · split at e
    · rename_i hl; cases e; obtain ⟨v, rfl, h⟩ := rs1 rr; cases h; exact .inl ⟨_, rfl, hl, o.val hh (.int _)⟩
    · cases e
  · obtain ⟨xs, e1, rfl⟩ := Option.map_eq_some_iff.mp e
    obtain ⟨v, rfl, h⟩ := rs1 rr
    obtain ⟨a, ws, rfl, h1, h2⟩ := rdSeq_rep hh h e1
    rw [h2.length] at o
    exact .inr ⟨a, ws, rfl, h1, o.val hh (.int _)⟩
  · cases e; obtain ⟨v, rfl, h⟩ := rs1 rr; cases h; exact .inl (.inl ⟨_, rfl, o.val hh (.int _)⟩)
  · cases e; obtain ⟨v, rfl, h⟩ := rs1 rr; cases h; exact .inl (.inr ⟨_, rfl, o.val hh (.int _)⟩)
  · split at e
    · rename_i hl
      obtain ⟨n, e1, rfl⟩ := Option.map_eq_some_iff.mp e
      obtain ⟨v, rfl, h⟩ := rs1 rr
      cases h
      exact .inr ⟨_, n, rfl, e1, hl, o.val hh (.int _)⟩
    · cases e
  · split at e
    · rename_i hl; cases e; obtain ⟨v, rfl, h⟩ := rs1 rr; cases h; exact ⟨_, rfl, hl, o.val hh (.str _)⟩
    · cases e
  · cases e; obtain ⟨v, rfl, h⟩ := rs1 rr
    obtain ⟨a, ws, rfl, h1, h2⟩ := tup_rep h
    exact ⟨a, ws, rfl, .inr ⟨h1, o.val hh (.tup h1 h2)⟩⟩
  · obtain ⟨xs, e1, rfl⟩ := Option.map_eq_some_iff.mp e
    obtain ⟨v, rfl, h⟩ := rs1 rr
    obtain ⟨a, ws, rfl, h1, h2⟩ := rdList_rep hh h e1
    exact ⟨a, ws, rfl, .inl ⟨h1, fun l hl => o.tup hh h2 hl⟩⟩
  · obtain ⟨xs, e1, rfl⟩ := Option.map_eq_some_iff.mp e
    obtain ⟨v, rfl, h⟩ := rs1 rr
    obtain ⟨a, ws, rfl, h1, h2⟩ := rdSeq_rep hh h e1
    exact ⟨a, ws, rfl, h1, fun l hl => o.lst hh h2 hl⟩
  · cases e; obtain ⟨v, rfl, h⟩ := rs1 rr; cases h; exact .inr ⟨_, rfl, o.val hh (.bool _)⟩
  · obtain ⟨ns, e1, rfl⟩ := Option.map_eq_some_iff.mp e
    obtain ⟨xs, e1, e2⟩ := Option.bind_eq_some_iff.mp e1
    obtain ⟨v, rfl, h⟩ := rs1 rr
    obtain ⟨a, ws, rfl, h1, h2⟩ := rdList_rep hh h e1
    exact ⟨a, ns, rfl, by rw [← ints_rep h2 e2]; exact h1, o.val hh (.int _)⟩
  · obtain ⟨ns, e1, rfl⟩ := Option.map_eq_some_iff.mp e
    obtain ⟨xs, e1, e2⟩ := Option.bind_eq_some_iff.mp e1
    obtain ⟨v, rfl, h⟩ := rs1 rr
    obtain ⟨a, ws, rfl, h1, h2⟩ := rdList_rep hh h e1
    exact ⟨a, ns, rfl, by rw [← bools_rep h2 e2]; exact h1, o.val hh (.bool _)⟩
  · obtain ⟨ns, e1, rfl⟩ := Option.map_eq_some_iff.mp e
    obtain ⟨xs, e1, e2⟩ := Option.bind_eq_some_iff.mp e1
    obtain ⟨v, rfl, h⟩ := rs1 rr
    obtain ⟨a, ws, rfl, h1, h2⟩ := rdList_rep hh h e1
    exact ⟨a, ns, rfl, by rw [← bools_rep h2 e2]; exact h1, o.val hh (.bool _)⟩
  · split at e
    · rename_i hl; cases e; obtain ⟨v, rfl, h⟩ := rs1 rr; cases h; exact ⟨_, rfl, hl, o.val hh (.int _)⟩
    · cases e
  · cases e

/-! ### isinstance with a built-in class -/
theorem kit_all : (tyNames.all fun b => (["NoneType", "bool", "int", "str", "tuple", "list", "dict"].all fun a =>
    kitB a b == some (decide (b = a) || (decide (a = "bool") && decide (b = "int"))))) = true := by decide +kernel
theorem kit_at {a b : String} (ha : a ∈ ["NoneType", "bool", "int", "str", "tuple", "list", "dict"]) (hb : b ∈ tyNames) : kitB a b = some (decide (b = a) || (decide (a = "bool") && decide (b = "int"))) := by
  have h := List.all_eq_true.mp kit_all b hb
  have h2 := List.all_eq_true.mp h a ha
  exact eq_of_beq h2
theorem sqL_ty {K : PySem.W.Frag} {a : Addr} {vs : List V} (h : SqL K H a vs) : TyX K H (.ref a) (.type "list") := by
  rcases h with (h | ⟨o, h⟩) | ⟨o, its, n, h1, h2, _⟩
  · exact .base (.lst h)
  · exact .base (.frz h)
  · exact .kList h1 h2
theorem sqT_ty {K : PySem.W.Frag} {a : Addr} {vs : List V} (h : SqT K H a vs) : TyX K H (.ref a) (.type "tuple") := by
  rcases h with (h | ⟨o, h⟩) | ⟨o, its, n, h1, h2, _⟩
  · exact .base (.tup h)
  · exact .fTuple h
  · exact .kTuple h1 h2
theorem kind_rep {a : String} (hh : HRep T ρ S H) (rx : RepR T ρ H0 H x vx) (e : kindOf x S = some a) : TyX T.K H vx (.type a) ∧ a ∈ ["NoneType", "bool", "int", "str", "tuple", "list", "dict"] := by
  unfold kindOf at e
  split at e
  · cases e; cases rx; exact ⟨.base .non, by simp⟩
  · cases e; cases rx; exact ⟨.base (.bl _), by simp⟩
  · cases e; cases rx; exact ⟨.base (.int _), by simp⟩
  · cases e; cases rx; exact ⟨.base (.str _), by simp⟩
  · cases e
    obtain ⟨a, vs, rfl, h1, h2⟩ := tup_rep rx
    exact ⟨sqT_ty h1, by simp⟩
  · rename_i n
    cases q : S[n]? with
    | none => rw [q] at e; cases e
    | some o =>
      rw [q] at e
      cases o with
      | lst xs =>
        cases e
        obtain ⟨a, vs, rfl, h1, h2, h3⟩ := hh.lstAt q rx
        exact ⟨sqL_ty (SqL.of h2), by simp⟩
      | ro xs => cases e
      | dict _ => cases e
  · cases e
    obtain ⟨a, vs, rfl, h1, _⟩ := rx
    exact ⟨sqL_ty (SqL.of h1), by simp⟩
  · exact rx.elim
theorem isi_ok {ty : String} {k : Bool} (hh : HRep T ρ S H) (rx : RepR T ρ H0 H x vx) (e : isType ty x S = some k) (q : Q (.bl k) H) : rIsi T.K [vx, .ty ty] H Q := by
  unfold isType at e
  split at e
  · rename_i a ha
    obtain ⟨tx, hm⟩ := kind_rep hh rx ha
    split at e
    · rename_i ht
      cases e
      exact ⟨vx, .ty ty, _, _, _, rfl, .ty ty, tx, kit_ty (kit_at hm ht), q⟩
    · cases e
  · cases e

/-! ### methods -/
def Me.name : Me → Str
  | .append => "append" | .pop => "pop" | .find => "find" | .join => "join"
def Me.ty : Me → String
  | .append => "list" | .pop => "list" | .find => "str" | .join => "str"
def Me.id : Me → String
  | .append => "list.append" | .pop => "list.pop" | .find => "str.find" | .join => "str.join"
theorem Me.plain (m : Me) : PlainAttrs m.ty := by
  cases m
  · exact PySem.F.plainAttrs_list
  · exact PySem.F.plainAttrs_list
  · exact PySem.F.plainAttrs_str
  · exact PySem.F.plainAttrs_str
theorem Me.slot (m : Me) : Slot m.ty m.name m.id := by
  cases m
  · exact PySem.F.slot_list_append
  · exact PySem.F.slot_list_pop
  · exact PySem.F.slot_str_find
  · exact PySem.F.slot_str_join
theorem Me.typ (m : Me) : typeOf (.builtin m.id) = pure (.type "method_descriptor") := by
  cases m
  · exact PySem.F.type_list_append
  · exact PySem.F.type_list_pop
  · exact PySem.F.type_str_find
  · exact PySem.F.type_str_join
def rMe (K : PySem.W.Frag) : Me → V → List V → Hp → VK → Prop
  | .append => rAppend
  | .pop => rPop
  | .find => fun x xs H Q => (∃ a b, x = .str a ∧ xs = [.str b] ∧ Q (.int (Txt.find a b)) H) ∨ (∃ (a b : Str) (i : Int), x = .str a ∧ xs = [.str b, .int i] ∧ Q (.int (Txt.find3 a b i)) H) ∨
      (∃ (a b : Str) (i j : Int), x = .str a ∧ xs = [.str b, .int i, .int j] ∧ Q (.int (Txt.findIn a b i j)) H)
  | .join => fun x xs H Q => ∃ a p, ∃ ys : List Str, x = .str a ∧ xs = [.ref p] ∧ (SqL K H p (ys.map V.str) ∨ SqT K H p (ys.map V.str)) ∧ (ys.map (·.length)).sum + ys.length * a.length ≤ 16777216 ∧ Q (.str (Txt.join a ys)) H
theorem me_mt {X : Cx} (m : Me) : MtR X m.id (rMe X.K m) := by
  cases m with
  | append => exact mt_append
  | pop => exact mt_pop
  | find => exact mt_find.or (mt_find3.or mt_find4)
  | join => exact mt_join
theorem rs2 {r q : RV} {vs : List V} (h : RepRs T ρ H0 H [r, q] vs) : ∃ v w, vs = [v, w] ∧ RepR T ρ H0 H r v ∧ RepR T ρ H0 H q w := by
  cases h with
  | cons h t => obtain ⟨w, rfl, h2⟩ := rs1 t; exact ⟨_, w, rfl, h, h2⟩
theorem rs3 {r q p : RV} {vs : List V} (h : RepRs T ρ H0 H [r, q, p] vs) : ∃ v w u, vs = [v, w, u] ∧ RepR T ρ H0 H r v ∧ RepR T ρ H0 H q w ∧ RepR T ρ H0 H p u := by
  cases h with
  | cons h t => obtain ⟨w, u, rfl, h2⟩ := rs2 t; exact ⟨_, w, u, rfl, h, h2⟩
theorem lst_ty (hh : HRep T ρ S H) (rx : RepR T ρ H0 H x vx) (e : isLst x S = true) : tyV T.K "list" vx H := by
  unfold isLst at e
  split at e
  · rename_i n
    split at e
    · rename_i xs q
      obtain ⟨a, vs, rfl, h1, h2, h3⟩ := hh.lstAt q rx
      exact .inl ⟨rfl, vs, SqL.of h2⟩
    · cases e
  · cases e
theorem txt_ty {K : PySem.W.Frag} (rx : RepR T ρ H0 H x vx) (e : isTxt x = true) : tyV K "str" vx H := by
  unfold isTxt at e
  split at e
  · cases rx; exact rfl
  · cases e
theorem me_ty (m : Me) (hh : HRep T ρ S H) (rx : RepR T ρ H0 H x vx) (e : recv m x S = true) : tyV T.K m.ty vx H := by
  cases m with
  | append => exact lst_ty hh rx e
  | pop => exact lst_ty hh rx e
  | find => exact txt_ty rx e
  | join => exact txt_ty rx e
theorem me_ok (m : Me) {rs : List RV} {vs : List V} {S' : Store} (hh : HRep T ρ S H) (rx : RepR T ρ H0 H x vx) (rr : RepRs T ρ H1 H rs vs) (e : meRV m x rs S = some (z, S'))
    (o : ∀ ρ' H' v, Ext ρ ρ' H H' → HRep T ρ' S' H' → RepR T ρ' H H' z v → Q v H') : rMe T.K m vx vs H Q := by
  unfold meRV at e
  split at e
  · rename_i n y
    cases q : S[n]? with
    | none => rw [q] at e; cases e
    | some ob =>
      rw [q] at e
      cases ob with
      | lst xs =>
        simp only at e
        split at e
        · rename_i hl
          cases e
          obtain ⟨a, ws, rfl, h1, h2, h3⟩ := hh.lstAt q rx
          obtain ⟨w, rfl, h4⟩ := rs1 rr
          obtain ⟨e1, e2⟩ := write_rep hh q h1 (h3.append (.cons h4 .nil))
          exact ⟨a, ws, w, rfl, rfl, h2, by rw [← h3.length]; exact hl, o ρ _ _ e1 e2 .non⟩
        · cases e
      | _ => cases e
  · rename_i n
    cases q : S[n]? with
    | none => rw [q] at e; cases e
    | some ob =>
      rw [q] at e
      cases ob with
      | lst xs =>
        simp only at e
        split at e
        · rename_i y hy
          cases e
          obtain ⟨a, ws, rfl, h1, h2, h3⟩ := hh.lstAt q rx
          cases rr
          obtain ⟨e1, e2⟩ := write_rep hh q h1 h3.dropLast
          obtain ⟨w, hw, rw'⟩ := h3.get hy
          exact ⟨a, ws, w, rfl, rfl, h2, by rw [← h3.length]; exact hw, o ρ _ _ e1 e2 (rw'.ext e1)⟩
        · cases e
      | _ => cases e
  · cases e; cases rx; obtain ⟨v, rfl, h⟩ := rs1 rr; cases h; exact .inl ⟨_, _, rfl, rfl, o ρ _ _ Ext.refl hh (.int _)⟩
  · cases e; cases rx; obtain ⟨v, w, rfl, h, h2⟩ := rs2 rr; cases h; cases h2; exact .inr (.inl ⟨_, _, _, rfl, rfl, o ρ _ _ Ext.refl hh (.int _)⟩)
  · cases e; cases rx; obtain ⟨v, w, u, rfl, h, h2, h3⟩ := rs3 rr; cases h; cases h2; cases h3; exact .inr (.inr ⟨_, _, _, _, rfl, rfl, o ρ _ _ Ext.refl hh (.int _)⟩)
  · rename_i a r
    cases q : (rdSeq r S).bind strs? with
    | none => rw [q] at e; cases e
    | some ys =>
      rw [q] at e
      simp only at e
      split at e
      · rename_i hj
        cases e
        obtain ⟨xs, e1, e2⟩ := Option.bind_eq_some_iff.mp q
        obtain ⟨v, rfl, h⟩ := rs1 rr
        cases rx
        obtain ⟨p, ws, rfl, h1, h2⟩ := rdSeq_rep hh h e1
        rw [strs_rep h2 e2] at h1
        exact ⟨a, p, ys, rfl, rfl, h1, of_decide_eq_true hj, o ρ _ _ Ext.refl hh (.str _)⟩
      · cases e
  · cases e
end
end Deep

set_option Elab.async false
set_option linter.all false
set_option maxRecDepth 100000
set_option maxHeartbeats 4000000
/-! The deep layer, 4: the checker (is this PySem expression that of the own terms), and what fits. -/
namespace Deep
open PySem PySem.Spec PyProof.Rows L2

/-- a program's names: of its defs (with how many parameters), of its constants -/
structure GT where
  fname : Nat → Str
  ar : Nat → Option Nat
  gname : Nat → Str
/-- where a text stands: the slots, the scope that runs, the scope as it is written -/
structure Cs where
  N : List Str
  sc : Scope
  bd : Scope
def visB (c : Cs) (x : Str) : Bool := match c.sc.names.lookup x with
  | some .local => true
  | some .cell => true
  | some .free => true
  | _ => false
def gloB (c : Cs) (x : Str) : Bool := decide (c.sc.names.lookup x = some .globalImplicit) && !(x == ("__debug__" : Str)) && !(decide (x = ("__name__" : Str)))
def bndB (c : Cs) (x : Str) : Bool := match c.bd.names.lookup x with
  | some .local => true
  | some .cell => true
  | _ => false
def nameB (c : Cs) (i : Nat) (x : Str) : Bool := decide (c.N[i]? = some x) && visB c x && !(x == ("__debug__" : Str)) && !(x == ("__classdict__" : Str))
def plainB : Expr → Bool
  | .Starred .. => false
  | _ => true
def noSlice : Expr → Bool
  | .Slice .. => false
  | _ => true
def noSet : Expr → Bool
  | .Set .. => false
  | _ => true
def noComp : Expr → Bool
  | .ListComp .. => false
  | .SetComp .. => false
  | .DictComp .. => false
  | _ => true
def noSuper : Expr → Bool
  | .Call (.Name id _) [] [] _ => id != ("super" : Str)
  | _ => true
mutual
def chkTg (c : Cs) : Tg → Expr → Bool
  | .name i, px => match px with
    | .Name x _ => decide (c.N[i]? = some x) && bndB c x
    | _ => false
  | .tup ts, px => match px with
    | .Tuple es _ _ => chkTgs c ts es
    | _ => false
def chkTgs (c : Cs) : Tgs → List Expr → Bool
  | .nil, es => match es with
    | [] => true
    | _ => false
  | .cons t ts, es => match es with
    | e :: r => plainB e && chkTg c t e && chkTgs c ts r
    | _ => false
end
def inner (c : Cs) (scope : Scope) : Cs := ⟨c.N, relS scope c.sc, scope⟩
def ownP (c : Cs) (own : List Nat) : List (Str × Nat) := own.map fun i => (c.N.getD i Str.empty, i)

/-- a row of replacements, the last one first, over what chk takes -/
def chkR (chk : Expr → Bool) : List (Str × Str) → Expr → Bool
  | [], px => chk px
  | (y, z) :: r, px => match px with
    | .Call (.Attribute po nm apos) [.Constant (.str y') _ _, .Constant (.str z') _ _] [] cpos => decide (nm = ("replace" : Str)) && (apos.endLine == cpos.line) && noSuper po && decide (y = y') && decide (z = z') && !(y == z) && chkR chk r po
    | _ => false
mutual
def chkE (G : GT) (c : Cs) : E → Expr → Bool
  | .var i, px => match px with
    | .Name x _ => nameB c i x
    | _ => false
  | .non, px => match px with
    | .Constant .none _ _ => true
    | _ => false
  | .bool b, px => match px with
    | .Constant (.bool b') _ _ => decide (b = b')
    | _ => false
  | .int i, px => match px with
    | .Constant (.int j) _ _ => decide (i = j)
    | _ => false
  | .str s, px => match px with
    | .Constant (.str t) _ _ => decide (s = t)
    | _ => false
  | .glob g, px => match px with
    | .Name x _ => decide (x = G.gname g) && gloB c x
    | _ => false
  | .bin op a b, px => match px with
    | .BinOp pa po pb _ => decide (po = op.py) && chkE G c a pa && chkE G c b pb
    | _ => false
  | .cmp op a b, px => match px with
    | .Compare pa [po] [pb] _ => decide (po = op.py) && noSet pb && chkE G c a pa && chkE G c b pb
    | _ => false
  | .and a b, px => match px with
    | .BoolOp .And (pa :: pb :: r) pos => chkE G c a pa && chkE G c b (.BoolOp .And (pb :: r) pos)
    | _ => false
  | .and1 a, px => match px with
    | .BoolOp .And [pa] _ => chkE G c a pa
    | _ => false
  | .or a b, px => match px with
    | .BoolOp .Or (pa :: pb :: r) pos => chkE G c a pa && chkE G c b (.BoolOp .Or (pb :: r) pos)
    | _ => false
  | .or1 a, px => match px with
    | .BoolOp .Or [pa] _ => chkE G c a pa
    | _ => false
  | .not a, px => match px with
    | .UnaryOp .Not pa _ => chkE G c a pa
    | _ => false
  | .neg a, px => match px with
    | .UnaryOp .USub pa _ => chkE G c a pa
    | _ => false
  | .ife t a b, px => match px with
    | .IfExp pt pa pb _ => chkE G c t pt && chkE G c a pa && chkE G c b pb
    | _ => false
  | .tup es, px => match px with
    | .Tuple pes _ _ => chkEs G c es pes
    | _ => false
  | .lst es, px => match px with
    | .List pes _ => chkEs G c es pes
    | _ => false
  | .call f es, px => match px with
    | .Call (.Name x _) pes [] _ => decide (x = G.fname f) && gloB c x && decide (G.ar f = some pes.length) && chkEs G c es pes
    | _ => false
  | .bcall b es, px => match px with
    | .Call (.Name x _) (pe :: pes) [] _ => decide (x = b.name) && gloB c x && chkEs G c es (pe :: pes)
    | _ => false
  | .isi ty a, px => match px with
    | .Call (.Name x _) [pa, .Name y _] [] _ => decide (x = ("isinstance" : Str)) && gloB c x && plainB pa && decide (y = Str.ofString ty) && gloB c y && decide (ty ∈ tyNames) && chkE G c a pa
    | _ => false
  | .meth m o es, px => match px with
    | .Call (.Attribute po nm apos) pes [] cpos => decide (nm = m.name) && (apos.endLine == cpos.line) && noSuper po && decide (pes.length < 28) && chkE G c o po && chkEs G c es pes
    | _ => false
  | .repl z o rs, px => match px with
    | .BinOp (.Constant (.str z') _ _) .Add pr _ => decide (z = z') && chkR (fun p => chkE G c o p) rs pr
    | _ => false
  | .ix a b, px => match px with
    | .Subscript pa pb _ => noSlice pb && chkE G c a pa && chkE G c b pb
    | _ => false
  | .slc a lo hi, px => match px with
    | .Subscript pa (.Slice plo phi none _) _ => chkE G c a pa && chkO G c lo plo && chkO G c hi phi
    | _ => false
  | .lc elt tg it cond own, px => match px with
    | .ListComp pe [⟨pt, pi, pifs, 0⟩] scope _ => blkC c.N c.sc scope (ownP c own) && noSet pi && (tg.slots.all fun i => decide (i ∈ own)) &&
        chkI G c it pi && chkTg (inner c scope) tg pt && chkC G (inner c scope) cond pifs && chkE G (inner c scope) elt pe
    | _ => false
def chkO (G : GT) (c : Cs) : Pt → Option Expr → Bool
  | .no, px => match px with
    | none => true
    | _ => false
  | .e x, px => match px with
    | some p => chkE G c x p
    | _ => false
def chkC (G : GT) (c : Cs) : Pt → List Expr → Bool
  | .no, px => match px with
    | [] => true
    | _ => false
  | .e x, px => match px with
    | [p] => chkE G c x p
    | _ => false
def chkI (G : GT) (c : Cs) : It → Expr → Bool
  | .e x, px => chkE G c x px
  | .rng1 a, px => match px with
    | .Call (.Name x _) [pa] [] _ => decide (x = ("range" : Str)) && gloB c x && plainB pa && chkE G c a pa
    | _ => false
  | .rng2 a b, px => match px with
    | .Call (.Name x _) [pa, pb] [] _ => decide (x = ("range" : Str)) && gloB c x && plainB pa && plainB pb && chkE G c a pa && chkE G c b pb
    | _ => false
def chkEs (G : GT) (c : Cs) : Es → List Expr → Bool
  | .nil, pes => match pes with
    | [] => true
    | _ => false
  | .cons e es, pes => match pes with
    | p :: ps => plainB p && chkE G c e p && chkEs G c es ps
    | _ => false
end
end Deep

set_option Elab.async false
set_option linter.all false
set_option maxRecDepth 100000
set_option maxHeartbeats 4000000
/-! The deep layer, 5: expressions. -/
namespace Deep
open PySem PySem.Spec PyProof.Rows L2

/-! ### readings made stronger -/
section
variable {X : Cx} {e : Expr} {es : List Expr}
theorem pe_imp {t t' : TE} (h : PE X e t) (i : ∀ σ H Q, t' σ H Q → t σ H Q) : PE X e t' := ⟨fun pins s σ H Q I q => h.run pins s σ H Q I (i σ H Q q)⟩
theorem pt_imp {t t' : TT} (h : PT X e t) (i : ∀ σ H Q, t' σ H Q → t σ H Q) : PT X e t' := ⟨fun pins s σ H Q I q => h.run pins s σ H Q I (i σ H Q q)⟩
theorem pw_imp {t t' : TT} (h : PW X e t) (i : ∀ σ H Q, t' σ H Q → t σ H Q) : PW X e t' := ⟨fun w pins s σ H Q I q => h.run w pins s σ H Q I (i σ H Q q)⟩
theorem pa_imp {t t' : TA} (h : PA X es t) (i : ∀ σ H Q, t' σ H Q → t σ H Q) : PA X es t' := ⟨fun p pins s σ H Q I q => h.run p pins s σ H Q I (i σ H Q q)⟩
theorem po_imp {o : Option Expr} {t t' : TO} (h : PO X o t) (i : ∀ σ H Q, t' σ H Q → t σ H Q) : PO X o t' := ⟨fun pins s σ H Q I q => h.run pins s σ H Q I (i σ H Q q)⟩
theorem pts_imp {t t' : TT} (h : PTs X es t) (i : ∀ σ H Q, t' σ H Q → t σ H Q) : PTs X es t' := ⟨fun pins s σ H Q I q => h.run pins s σ H Q I (i σ H Q q)⟩
theorem pi_imp {tg : Expr} {t t' : TI} (h : PI X tg e t) (i : ∀ σ H Q, t' σ H Q → t σ H Q) : PI X tg e t' := ⟨fun pins s σ H Q I q => h.run pins s σ H Q I (i σ H Q q)⟩
theorem pi_or {tg : Expr} {t t' : TI} (h : PI X tg e t) (h' : PI X tg e t') : PI X tg e (fun σ H R => t σ H R ∨ t' σ H R) := ⟨fun pins s σ H Q I q => q.elim (h.run pins s σ H Q I) (h'.run pins s σ H Q I)⟩
theorem pg_imp {t t' : TG} (h : PG X e t) (i : ∀ v σ H Q, t' v σ H Q → t v σ H Q) : PG X e t' := ⟨fun pins s σ H v u Q I r q => h.run pins s σ H v u Q I r (i v σ H Q q)⟩
theorem pg_or {t t' : TG} (h : PG X e t) (h' : PG X e t') : PG X e (fun v σ H Q => t v σ H Q ∨ t' v σ H Q) := ⟨fun pins s σ H v u Q I r q => q.elim (h.run pins s σ H v u Q I r) (h'.run pins s σ H v u Q I r)⟩
theorem pgs_imp {t t' : TGs} (h : PGs X es t) (i : ∀ v σ H Q, t' v σ H Q → t v σ H Q) : PGs X es t' := ⟨fun pins s σ H v u Q I r q => h.run pins s σ H v u Q I r (i v σ H Q q)⟩
theorem star_cons {env : Env} (h : plainB e = true) : starEach (e :: es) env = (false, eval e env) :: starEach es env := by
  cases e <;> first | rfl | (simp [plainB] at h; done)
theorem star_all {env : Env} {pos : Pos} : ∀ {es : List Expr}, es.all plainB = true → (backTo pos (starEach es env)).any (·.1) = false
  | [], _ => rfl
  | e :: es, h => by
    simp only [List.all_cons, Bool.and_eq_true] at h
    rw [star_cons h.1]
    show (false || (backTo pos (starEach es env)).any (·.1)) = false
    rw [star_all h.2]
    rfl
theorem star_all' {env : Env} {pos : Pos} : ∀ {es : List Expr}, es.all plainB = true → (backTo pos (starEach es env)).all (fun x => !x.1) = true
  | [], _ => rfl
  | e :: es, h => by
    simp only [List.all_cons, Bool.and_eq_true] at h
    rw [star_cons h.1]
    show (!false && (backTo pos (starEach es env)).all (fun x => !x.1)) = true
    rw [star_all' h.2]
    rfl
theorem base_of {env : Env} {o : Expr} {nm : Str} (h : noSuper o = true) : attributeBase o nm env (eval o env) = eval o env := by
  unfold attributeBase
  split
  · rename_i id p pos
    have h1 : (id != ("super" : Str)) = true := h
    rw [h1]
    simp only [Bool.true_or, if_true]
  · rfl
theorem set_of {env : Env} {o : Expr} (h : noSet o = true) (x : Value) : foldedSetIterable o env x = pure x := by
  cases o <;> first | rfl | (simp [noSet] at h; done)
theorem mark_of {op : CmpOp} {b : Expr} (h : noSet b = true) : behindInMarks op b = false := by
  cases b <;> first | rfl | (simp [noSet] at h; done)
theorem ix_of {b : Expr} (h : noSlice b = true) : PlainIx b := fun o i => by
  cases b <;> first | rfl | (simp [noSlice] at h; done)
end

/-- what a def promises by the evaluator -/
def spF (T : Tb) (np : Nat) (call : List PV → Store → Res RV) : Sp := fun vs H Q E => vs.length = np ∧ ∃ ρ S args, HRep T ρ S H ∧ RepL T ρ H args vs ∧ Sat T (fun c d _ H => E c d H) [] ρ H kV Q (call args S)
def freeNames : List Str := ["len", "int", "str", "tuple", "list", "bool", "sum", "all", "any", "ord", "isinstance", "dict", "range", "set", "min", "max", "sorted", "zip", "enumerate", "abs"]
/-- the defs, constants and built-ins as they stand behind the top -/
structure Fns (G : GT) (T : Tb) (P : Par) (k : Nat) (prog : Program) (w : World) (mg : Str → Option Value) (base : Heap) : Prop where
  fn : ∀ f np, G.ar f = some np → ∃ a fdt ps, mg (G.fname f) = some (.ref a) ∧ PySem.W.keepIn T.K (.ref a) = true ∧ FnOk prog w T.K mg base (CX prog w) k a fdt ps (spF T np (P.call f)) ∧ Binds T.K fdt ps []
  gl : ∀ g x, P.glob g = some x → ∃ u v, mg (G.gname g) = some u ∧ RelV v u ∧ ∀ ρ H, Rep T ρ H x v
  free : ∀ x ∈ freeNames, mg x = none
structure Fit (G : GT) (T : Tb) (W : WX) (P : Par) (k : Nat) (c : Cs) (X : Cx) : Prop where
  N : X.N = c.N
  sc : X.env.scope = c.sc
  nd : c.N.Nodup
  calm : X.calm = true
  K : X.K = T.K
  room : Room k X.A
  fns : Fns G T P k X.prog X.w X.mg X.base
  tk : Takes X W
  bnd : ∀ x, bndB c x = true → Loc X.env.scope x ∧ (X.fn x = true ∨ X.env.scope.names.lookup x = some .local)
section
variable {G : GT} {T : Tb} {W : WX} {P : Par} {k : Nat} {c : Cs} {X : Cx}
theorem Fit.hu (F : Fit G T W P k c X) : X.A.units + 64 < cLine := F.room.units
theorem gloB_ok (F : Fit G T W P k c X) {x : Str} (h : gloB c x = true) : Gl X x ∧ (x == ("__debug__" : Str)) = false ∧ x ≠ "__name__" := by
  simp only [gloB, Bool.and_eq_true, decide_eq_true_eq, Bool.not_eq_true', decide_eq_false_iff_not] at h
  exact ⟨by show X.env.scope.names.lookup x = _; rw [F.sc]; exact h.1.1, h.1.2, h.2⟩
theorem nameB_ok (F : Fit G T W P k c X) {i : Nat} {x : Str} (h : nameB c i x = true) : X.N[i]? = some x ∧ Vis X.env.scope x ∧ (x == ("__debug__" : Str)) = false ∧ (x == ("__classdict__" : Str)) = false := by
  simp only [nameB, Bool.and_eq_true, decide_eq_true_eq, Bool.not_eq_true'] at h
  refine ⟨by rw [F.N]; exact h.1.1.1, ?_, h.1.2, h.2⟩
  have v := h.1.1.2
  unfold visB at v
  rw [F.sc]
  unfold Vis
  split at v
  · exact .inl (by assumption)
  · exact .inr (.inl (by assumption))
  · exact .inr (.inr (by assumption))
  · cases v

/-! ### targets -/
def rdG (T : Tb) (tg : Tg) : TG := fun v σ H Q => ∃ ρ0 H0 ρ S env r, Ext ρ0 ρ H0 H ∧ EnvRep T ρ H env σ ∧ HRep T ρ S H ∧ RepR T ρ H0 H r v ∧
  ∃ e S', bindT tg r env S = some (e, S') ∧ ∀ ρ' σ', Ext ρ0 ρ' H0 H → (∀ n a, ρ n = some a → ρ' n = some a) → HRep T ρ' S' H → EnvRep T ρ' H e σ' → (∀ vs, (∀ i ∈ tg.slots, i ∈ vs) → wipe σ' vs = wipe σ vs) → Q σ' H
def rdGs (T : Tb) (ts : Tgs) : TGs := fun vs σ H Q => ∃ ρ0 H0 ρ S env xs, Ext ρ0 ρ H0 H ∧ EnvRep T ρ H env σ ∧ HRep T ρ S H ∧ RepL T ρ H xs vs ∧
  ∃ e S', bindTs ts xs env S = some (e, S') ∧ ∀ ρ' σ', Ext ρ0 ρ' H0 H → (∀ n a, ρ n = some a → ρ' n = some a) → HRep T ρ' S' H → EnvRep T ρ' H e σ' → (∀ vs, (∀ i ∈ ts.slots, i ∈ vs) → wipe σ' vs = wipe σ vs) → Q σ' H
theorem wipe_set {σ : L2.St} {i : Nat} {x : Option V} : ∀ {vs : List Nat}, i ∈ vs → wipe (σ.set i x) vs = wipe σ vs
  | v :: vs, h => by
    show (wipe (σ.set i x) vs).set v none = (wipe σ vs).set v none
    by_cases hm : i ∈ vs
    · rw [wipe_set hm]
    · have e : i = v := by
        rcases List.mem_cons.mp h with h | h
        · exact h
        · exact absurd h hm
      subst e
      have c : ∀ us : List Nat, i ∉ us → wipe (σ.set i x) us = (wipe σ us).set i x := fun us => by
        induction us with
        | nil => intro _; rfl
        | cons u us ih =>
          intro hn
          simp only [List.mem_cons, not_or] at hn
          show (wipe (σ.set i x) us).set u none = ((wipe σ us).set u none).set i x
          rw [ih hn.2, List.set_comm _ _ hn.1]
      rw [c vs hm, List.set_set]
theorem tgs_len {ts : Tgs} : ∀ {c : Cs} {es : List Expr}, chkTgs c ts es = true → es.all plainB = true := by
  intro c es h
  induction es generalizing ts with
  | nil => rfl
  | cons e r ih =>
    cases ts with
    | nil => simp [chkTgs] at h
    | cons t ts =>
      simp only [chkTgs, Bool.and_eq_true] at h
      rw [List.all_cons, h.1.1, ih h.2]
      rfl
theorem assign_plain {env : Env} : ∀ {es : List Expr}, es.all plainB = true → (assignEach es env).length = es.length ∧ (assignEach es env).findIdx? (·.1) = none ∧ (assignEach es env).map (·.2) = es.map fun e => assign e env
  | [], _ => ⟨rfl, rfl, rfl⟩
  | e :: es, h => by
    simp only [List.all_cons, Bool.and_eq_true] at h
    obtain ⟨h1, h2, h3⟩ := assign_plain (env := env) h.2
    have e1 : assignEach (e :: es) env = (false, assign e env) :: assignEach es env := by
      have hp := h.1
      cases e <;> first | rfl | (simp [plainB] at hp; done)
    rw [e1]
    refine ⟨by rw [List.length_cons, h1]; rfl, ?_, by rw [List.map_cons, h3]; rfl⟩
    rw [List.findIdx?_cons]
    simp [h2]
theorem bindTs_len : ∀ {ts : Tgs} {xs : List PV} {env : PEnv} {S : Store} {p : PEnv × Store}, bindTs ts xs env S = some p → xs.length = ts.len
  | .nil, [], _, _, _, _ => rfl
  | .nil, _ :: _, _, _, _, h => by simp [bindTs] at h
  | .cons _ _, [], _, _, _, h => by simp [bindTs] at h
  | .cons t ts, x :: xs, env, S, p, h => by
    simp only [bindTs] at h
    split at h
    · rw [List.length_cons, bindTs_len h]; rfl
    · cases h
theorem chkTgs_len : ∀ {c : Cs} {ts : Tgs} {es : List Expr}, chkTgs c ts es = true → es.length = ts.len
  | _, .nil, [], _ => rfl
  | _, .nil, _ :: _, h => by simp [chkTgs] at h
  | _, .cons _ _, [], h => by simp [chkTgs] at h
  | c, .cons t ts, e :: es, h => by
    simp only [chkTgs, Bool.and_eq_true] at h
    rw [List.length_cons, chkTgs_len h.2]
    rfl
theorem unpk_rep {ρ : Rho} {S : Store} {H H0 : Hp} {r : RV} {v : V} {xs : List PV} (hh : HRep T ρ S H) (rr : RepR T ρ H0 H r v) (e : unpk r S = some xs) :
    ∃ a vs, v = .ref a ∧ (SqT T.K H a vs ∨ SqL T.K H a vs) ∧ RepL T ρ H xs vs := by
  unfold unpk at e
  split at e
  · cases e; obtain ⟨a, vs, h1, h2, h3⟩ := tup_rep rr; exact ⟨a, vs, h1, .inl h2, h3⟩
  · rename_i n
    cases q : S[n]? with
    | none => rw [q] at e; cases e
    | some o =>
      rw [q] at e
      cases o with
      | lst ys => cases e; obtain ⟨a, vs, h1, h2, h3, h4⟩ := hh.lstAt q rr; exact ⟨a, vs, h1, .inr (SqL.of h3), h4⟩
      | _ => cases e
  · cases e; obtain ⟨a, vs, h1, h2, h3, _⟩ := rr; exact ⟨a, vs, h1, .inr (SqL.of h2), h3⟩
  · cases e
mutual
theorem snd_G (F : Fit G T W P k c X) : ∀ (tg : Tg) (px : Expr), chkTg c tg px = true → PG X px (rdG T tg)
  | .name i, px, h => by
    unfold chkTg at h
    split at h
    · rename_i x p
      simp only [Bool.and_eq_true, decide_eq_true_eq] at h
      obtain ⟨b1, b2⟩ := F.bnd x h.2
      refine pg_imp (pg_name (i := i) (by rw [F.N]; exact F.nd) (by rw [F.N]; exact h.1) b1 b2) fun v σ H Q q => ?_
      obtain ⟨ρ0, H0, ρ, S, env, r, e0, he, hh, rr, e, S', hb, fin⟩ := q
      obtain ⟨ρ', e1, hh', r', sub⟩ := settle_rep e0 hh rr
      simp only [bindT, Option.some.injEq, Prod.mk.injEq] at hb
      obtain ⟨rfl, rfl⟩ := hb
      have he' : EnvRep T ρ' H env σ := ⟨he.len, fun j y q => let ⟨v, a, b⟩ := he.get j y q; ⟨v, a, b.mono sub Keeps.refl⟩⟩
      exact fin ρ' _ e1 sub hh' (he'.set i r') fun vs hv => wipe_set (hv i (by simp [Tg.slots]))
    · cases h
  | .tup ts, px, h => by
    unfold chkTg at h
    split at h
    · rename_i es kk pos
      have hp := tgs_len h
      obtain ⟨a1, a2, a3⟩ := assign_plain (env := X.env) hp
      have ih := snd_Gs F ts es h
      refine pg_imp (pg_or (pg_tup (n := ts.len) F.calm ih (by rw [a1, chkTgs_len h]) a2) (pg_lst (n := ts.len) F.calm ih (by rw [a1, chkTgs_len h]) a2)) fun v σ H Q q => ?_
      obtain ⟨ρ0, H0, ρ, S, env, r, e0, he, hh, rr, e, S', hb, fin⟩ := q
      simp only [bindT] at hb
      split at hb
      · rename_i xs hx
        obtain ⟨a, vs, rfl, h1, h2⟩ := unpk_rep hh rr hx
        have hl : vs.length = ts.len := by rw [← h2.length]; exact bindTs_len hb
        have z : rdGs T ts vs σ H Q := ⟨ρ0, H0, ρ, S, env, xs, e0, he, hh, h2, e, S', hb, fin⟩
        rcases h1 with h1 | h1
        · exact .inl ⟨a, vs, rfl, by rw [F.K]; exact h1, hl, z⟩
        · exact .inr ⟨a, vs, rfl, by rw [F.K]; exact h1, hl, z⟩
      · cases hb
    · cases h
theorem snd_Gs (F : Fit G T W P k c X) : ∀ (ts : Tgs) (es : List Expr), chkTgs c ts es = true → PGs X es (rdGs T ts)
  | .nil, es, h => by
    unfold chkTgs at h
    split at h
    · refine pgs_imp pgs_nil fun vs σ H Q q => ?_
      obtain ⟨ρ0, H0, ρ, S, env, xs, e0, he, hh, rr, e, S', hb, fin⟩ := q
      cases xs with
      | nil =>
        cases rr
        simp only [bindTs, Option.some.injEq, Prod.mk.injEq] at hb
        obtain ⟨rfl, rfl⟩ := hb
        exact ⟨rfl, fin ρ σ e0 (fun _ _ z => z) hh he fun _ _ => rfl⟩
      | cons _ _ => simp [bindTs] at hb
    · cases h
  | .cons t ts, es, h => by
    unfold chkTgs at h
    split at h
    · rename_i e r
      simp only [Bool.and_eq_true] at h
      have hp : (e :: r).all plainB = true := by rw [List.all_cons, h.1.1, tgs_len h.2]; rfl
      have a3 := (assign_plain (env := X.env) hp).2.2
      have a4 := (assign_plain (env := X.env) (tgs_len h.2)).2.2
      refine pgs_imp (pgs_cons (snd_G F t e h.1.2) (snd_Gs F ts r h.2) (by rw [a3, a4]; rfl)) fun vs σ H Q q => ?_
      obtain ⟨ρ0, H0, ρ, S, env, xs, e0, he, hh, rr, e2, S', hb, fin⟩ := q
      cases xs with
      | nil => simp [bindTs] at hb
      | cons x xs =>
        cases rr with
        | cons r1 r2 =>
          simp only [bindTs] at hb
          split at hb
          · rename_i e1 S1 hb1
            refine ⟨_, _, rfl, ρ0, H0, ρ, S, env, .v x, e0, he, hh, r1, e1, S1, hb1, fun ρ1 σ1 f0 f1 f2 f3 f4 => ?_⟩
            refine ⟨ρ0, H0, ρ1, S1, e1, xs, f0, f3, f2, r2.mono f1 Keeps.refl, e2, S', hb, fun ρ2 σ2 g0 g1 g2 g3 g4 => ?_⟩
            refine fin ρ2 σ2 g0 (fun n a z => g1 n a (f1 n a z)) g2 g3 fun vs hv => ?_
            rw [g4 vs fun i hi => hv i (by simp [Tgs.slots, hi]), f4 vs fun i hi => hv i (by simp [Tgs.slots, hi])]
          · cases hb
    · cases h
end
end
end Deep

set_option Elab.async false
set_option linter.all false
set_option maxRecDepth 100000
set_option maxHeartbeats 4000000
namespace Deep
open PySem PySem.Spec PyProof.Rows L2

/-! ### sources of loops -/
def Src (T : Tb) (ρ0 : Rho) (H0 : Hp) (J : L2.It) (xs : List PV) (g : Guard) : Prop := ∀ (ρ : Rho) (S : Store) (H : Hp) (i : Nat), Ext ρ0 ρ H0 H → HRep T ρ S H → g.ok S = true →
  (∀ x, xs[i]? = some x → J.go i H ∧ ∀ v H', J.yld i H v H' → Ext ρ ρ H H' ∧ HRep T ρ S H' ∧ Rep T ρ H' x v) ∧ (i = xs.length → J.stop i H)
def kI : Kind (List PV × Guard) L2.It := ⟨fun T ρ _ H a J => Src T ρ H J a.1 a.2, fun _ h => h⟩
section
variable {T : Tb} {ρ0 : Rho} {H0 : Hp} {xs : List PV} {g : Guard} {a : Addr}
theorem src_list (h : ∀ (ρ : Rho) (S : Store) (H : Hp), Ext ρ0 ρ H0 H → HRep T ρ S H → g.ok S = true → ∃ vs, SqL T.K H a vs ∧ RepL T ρ H xs vs) : Src T ρ0 H0 (Itl T.K a) xs g := fun ρ S H i e hh hg => by
  obtain ⟨vs, h1, h2⟩ := h ρ S H e hh hg
  refine ⟨fun x hx => ?_, fun hl => ⟨vs, h1, by rw [hl, h2.length]; exact Nat.le_refl _⟩⟩
  obtain ⟨v, h3, h4⟩ := h2.get hx
  refine ⟨⟨vs, v, h1, h3⟩, fun v' H' ⟨e1, e2⟩ => ?_⟩
  subst e1
  have e3 := e2 vs h1
  rw [h3] at e3
  cases e3
  exact ⟨Ext.refl, hh, h4⟩
theorem src_tup {vs : List V} (h : SqT T.K H0 a vs) (r : RepL T ρ0 H0 xs vs) : Src T ρ0 H0 (Itt T.K a) xs none := fun ρ S H i e hh _ => by
  have h1 := e.keeps.sqT h
  have h2 := r.ext e
  refine ⟨fun x hx => ?_, fun hl => ⟨vs, h1, by rw [hl, h2.length]; exact Nat.le_refl _⟩⟩
  obtain ⟨v, h3, h4⟩ := h2.get hx
  refine ⟨⟨vs, v, h1, h3⟩, fun v' H' ⟨e1, e2⟩ => ?_⟩
  subst e1
  have e3 := e2 vs h1
  rw [h3] at e3
  cases e3
  exact ⟨Ext.refl, hh, h4⟩
theorem src_str {z : Str} : Src T ρ0 H0 (Its z) (z.cps.toList.map fun c => .str ⟨#[c]⟩) none := fun ρ S H i e hh _ => by
  refine ⟨fun x hx => ?_, fun hl => by show z.cps.size ≤ i; rw [hl]; simp⟩
  rw [List.getElem?_map] at hx
  obtain ⟨c, hc, rfl⟩ := Option.map_eq_some_iff.mp hx
  have hc' : z.cps[i]? = some c := by rw [← Array.getElem?_toList]; exact hc
  refine ⟨?_, fun v' H' ⟨e1, c', e2, e3⟩ => ?_⟩
  · show i < z.cps.size
    exact (Array.getElem?_eq_some_iff.mp hc').1
  · subst e1
    rw [hc'] at e2
    cases e2
    subst e3
    exact ⟨Ext.refl, hh, .str _⟩
theorem src_range {lo : Int} {n : Nat} : Src T ρ0 H0 (Itr lo n) ((List.range n).map fun (k : Nat) => .int (lo + (k : Int))) none := fun ρ S H i e hh _ => by
  refine ⟨fun x hx => ?_, fun hl => by show n ≤ i; rw [hl]; simp⟩
  rw [List.getElem?_map] at hx
  obtain ⟨c, hc, rfl⟩ := Option.map_eq_some_iff.mp hx
  have hi : i < n ∧ c = i := by
    have h1 := List.getElem?_eq_some_iff.mp hc
    obtain ⟨h2, h3⟩ := h1
    rw [List.length_range] at h2
    rw [List.getElem_range] at h3
    exact ⟨h2, h3.symm⟩
  refine ⟨hi.1, fun v' H' ⟨e1, e2⟩ => ?_⟩
  subst e1
  subst e2
  rw [hi.2]
  exact ⟨Ext.refl, hh, .int _⟩
end

section
variable {G : GT} {T : Tb} {W : WX} {P : Par} {k : Nat} {c : Cs} {X : Cx}
theorem free_ok (F : Fit G T W P k c X) {x : Str} (h : x ∈ freeNames) : X.mg x = none := F.fns.free x h
theorem snd_Ie (F : Fit G T W P k c X) {tg px : Expr} {x : E} (h : PE X px (rd T W kV (evalE P x))) : PI X tg px (rd T W kI (evalI P (.e x))) := by
  refine pi_imp (pi_or (pi_list h) (pi_or (pi_tup h) (pi_str h))) fun σ H R q => ?_
  obtain ⟨ρ, S, env, he, hh, hs⟩ := q
  simp only [evalI] at hs
  cases hm : evalE P x env S with
  | stuck => rw [hm] at hs; exact hs.elim
  | exc y S1 => rw [hm] at hs; exact .inl ⟨ρ, S, env, he, hh, by rw [hm]; exact hs⟩
  | ok r S1 =>
    rw [hm] at hs
    have hs : Sat T W σ ρ H kI R (.of (items r S1) S1) := hs
    have L : ∀ (xs : List PV) (g : Guard), items r S1 = some (xs, g) → (∀ ρ1 H1 v, Ext ρ ρ1 H H1 → HRep T ρ1 S1 H1 → RepR T ρ1 H H1 r v → ∃ a, v = .ref a ∧ (∃ vs, SqL T.K H1 a vs) ∧
        ∀ (ρ' : Rho) (S' : Store) (H' : Hp), Ext ρ1 ρ' H1 H' → HRep T ρ' S' H' → g.ok S' = true → ∃ vs, SqL T.K H' a vs ∧ RepL T ρ' H' xs vs) → iList X.K (rd T W kV (evalE P x)) σ H R := fun xs g hi hf => by
      refine ⟨ρ, S, env, he, hh, ?_⟩
      rw [hm]
      intro ρ1 H1 v e1 hh1 rr
      rw [hi] at hs
      obtain ⟨a, ha, hv, hg⟩ := hf ρ1 H1 v e1 hh1 rr
      refine ⟨a, ha, by rw [F.K]; exact hv, ?_⟩
      rw [F.K]
      exact hs ρ1 H1 _ e1 hh1 (src_list hg)
    cases r with
    | v y =>
      cases y with
      | tup xs =>
        refine .inr (.inl ⟨ρ, S, env, he, hh, ?_⟩)
        rw [hm]
        intro ρ1 H1 v e1 hh1 rr
        obtain ⟨a, vs, ha, h1, h2⟩ := tup_rep rr
        refine ⟨a, ha, ⟨vs, by rw [F.K]; exact h1⟩, ?_⟩
        rw [F.K]
        exact hs ρ1 H1 _ e1 hh1 (src_tup h1 h2)
      | str z =>
        refine .inr (.inr ⟨ρ, S, env, he, hh, ?_⟩)
        rw [hm]
        intro ρ1 H1 v e1 hh1 rr
        cases rr
        exact ⟨z, rfl, hs ρ1 H1 _ e1 hh1 src_str⟩
      | ref n =>
        cases q : S1[n]? with
        | none => simp only [items, q, Res.of] at hs; exact hs.elim
        | some o =>
          cases o with
          | lst xs =>
            refine .inl (L xs (some (n, xs)) (by simp only [items, q]) fun ρ1 H1 v e1 hh1 rr => ?_)
            obtain ⟨a, vs, ha, h1, h2, h3⟩ := hh1.lstAt q rr
            refine ⟨a, ha, ⟨vs, SqL.of h2⟩, fun ρ' S' H' e2 hh2 hg => ?_⟩
            have hg : S'[n]? = some (.lst xs) := of_decide_eq_true hg
            obtain ⟨b, ws, z1, z2, z3⟩ := hh2.obj n _ hg
            rw [e2.sub _ _ h1] at z1
            cases z1
            exact ⟨ws, SqL.of z2, z3⟩
          | ro xs =>
            refine .inl (L xs none (by simp only [items, q]) fun ρ1 H1 v e1 hh1 rr => ?_)
            obtain ⟨a, vs, ha, h1, h2⟩ := hh1.roAt q rr
            exact ⟨a, ha, ⟨vs, h1.sq⟩, fun ρ' S' H' e2 hh2 _ => ⟨vs, (h1.keep e2.keeps).sq, h2.ext e2⟩⟩
          | dict _ => simp only [items, q, Res.of] at hs; exact hs.elim
      | _ => exact hs.elim
    | lst xs =>
      refine .inl (L xs none rfl fun ρ1 H1 v e1 hh1 rr => ?_)
      obtain ⟨a, vs, ha, h1, h2, h3, h4⟩ := rr
      refine ⟨a, ha, ⟨vs, SqL.of h1⟩, fun ρ' S' H' e2 hh2 _ => ⟨vs, SqL.of (e2.frame _ _ h1 h3), h2.ext e2⟩⟩
    | dict _ => exact hs.elim
theorem inRange_ok {i : Int} (h : inRange i = true) : -(2 ^ 62) ≤ i ∧ i < 2 ^ 62 := by
  simp only [inRange, decide_eq_true_eq] at h
  omega
theorem range_free : ("range" : Str) ∈ freeNames := by simp [freeNames]
theorem snd_I1 (F : Fit G T W P k c X) {tg pa : Expr} {p pos : Pos} {a : E} (hp : plainB pa = true) (hg : gloB c "range" = true) (h : PE X pa (rd T W kV (evalE P a))) : PI X tg (.Call (.Name "range" p) [pa] [] pos) (rd T W kI (evalI P (.rng1 a))) := by
  refine pi_imp (pi_range1 (gloB_ok F hg).1 (free_ok F range_free) (pa_cons h pa_nil (star_cons hp)) (star_cons hp)) fun σ H R q => ?_
  obtain ⟨ρ, S, env, he, hh, hs⟩ := q
  simp only [evalI] at hs
  refine ⟨ρ, S, env, he, hh, Sat.bindK hs fun ρ1 S1 r v H1 e1 hh1 rr hs1 => ?_⟩
  split at hs1
  · rename_i j
    split at hs1
    · rename_i hr
      cases rr
      obtain ⟨h1, h2⟩ := inRange_ok hr
      refine ⟨j, rfl, h1, h2, Sat.done hs1 hh1 ?_⟩
      show Src T ρ1 H1 _ (rangeItems 0 j) none
      unfold rangeItems
      rw [Int.sub_zero]
      exact src_range
    · exact hs1.elim
  · exact hs1.elim
theorem snd_I2 (F : Fit G T W P k c X) {tg pa pb : Expr} {p pos : Pos} {a b : E} (hp : plainB pa = true) (hp2 : plainB pb = true) (hg : gloB c "range" = true) (h : PE X pa (rd T W kV (evalE P a))) (h2 : PE X pb (rd T W kV (evalE P b))) :
    PI X tg (.Call (.Name "range" p) [pa, pb] [] pos) (rd T W kI (evalI P (.rng2 a b))) := by
  have s2 : starEach [pb] X.env = [(false, eval pb X.env)] := star_cons hp2
  have s1 : starEach [pa, pb] X.env = (false, eval pa X.env) :: starEach [pb] X.env := star_cons hp
  refine pi_imp (pi_range2 (gloB_ok F hg).1 (free_ok F range_free) (pa_cons h (pa_cons h2 pa_nil s2) s1) (by rw [s1, s2]) s2) fun σ H R q => ?_
  obtain ⟨ρ, S, env, he, hh, hs⟩ := q
  simp only [evalI] at hs
  refine ⟨ρ, S, env, he, hh, Sat.bindK hs fun ρ1 S1 r v H1 e1 hh1 rr hs1 => ⟨ρ1, S1, env, he.ext e1, hh1, Sat.bindK hs1 fun ρ2 S2 r2 v2 H2 e2 hh2 rr2 hs2 => ?_⟩⟩
  split at hs2
  · rename_i i j
    split at hs2
    · rename_i hr
      rw [Bool.and_eq_true] at hr
      cases rr; cases rr2
      obtain ⟨h1, h2⟩ := inRange_ok hr.1
      obtain ⟨h3, h4⟩ := inRange_ok hr.2
      refine ⟨i, j, rfl, ⟨h1, h2, h3, h4⟩, Sat.done hs2 hh2 ?_⟩
      exact src_range
    · exact hs2.elim
  · exact hs2.elim

/-! ### small lemmas for expressions -/
theorem Res.bind_of {α β : Type} {o : Option α} {S : Store} {f : α → Store → Res β} : (Res.of o S).bind f = match o with
    | some a => f a S
    | none => .stuck := by cases o <;> rfl
theorem Sat.ofK {α β : Type} {kd : Kind α β} {σ : L2.St} {ρ : Rho} {H : Hp} {Q : β → Hp → Prop} {o : Option α} {S : Store} (h : Sat T W σ ρ H kd Q (.of o S)) : ∃ a, o = some a ∧ Sat T W σ ρ H kd Q (.ok a S) := by
  cases o with
  | none => exact h.elim
  | some a => exact ⟨a, rfl, h⟩
theorem Sat.out {σ : L2.St} {ρ : Rho} {H : Hp} {Q : VK} {z : RV} {S : Store} (h : Sat T W σ ρ H kV Q (.ok z S)) : Out T ρ S H z Q := h
theorem pt_stuck {px : Expr} : PT X px (rd T W kB fun _ _ => .stuck) := ⟨fun _ _ _ _ _ _ ⟨_, _, _, _, _, h⟩ => h.elim⟩
theorem pw_stuck {px : Expr} : PW X px (rd T W kB fun _ _ => .stuck) := ⟨fun _ _ _ _ _ _ _ ⟨_, _, _, _, _, h⟩ => h.elim⟩
theorem pe_constAdd {z : Str} {j : Nat} {p pos : Pos} {b : Expr} {tb : TE} {r : R2} (ho : OpR X (binaryOp .Add) r) (hb : PET X b tb) : PE X (.BinOp (.Constant (.str z) j p) .Add b pos) (tOp r (tC (.str z)) tb) := by
  refine ⟨fun pins s σ H Q I h => ?_⟩
  refine wpAny_BinOp (Calls.Constant_str ?_)
  exact thn (hb pins { s with toks := s.toks + 1 } σ H _ (by show 1 ≤ s.toks + 1; omega) (I.tok _) h) fun u s2 ⟨y, H2, I2, r2, q2⟩ => ho pins s2 σ H2 (.str z) y _ u Q I2 ⟨_, rfl⟩ r2 q2
def tRepls : List (Str × Str) → TE → TE
  | [], t => t
  | (y, z) :: r, t => CwR.tReplC (tRepls r t) y z
theorem repl_pet (F : Fit G T W P k c X) {chk : Expr → Bool} {te : TE} (hc : ∀ px, chk px = true → PE X px te) : ∀ (rs : List (Str × Str)) (px : Expr), chkR chk rs px = true → PET X px (tRepls rs te)
  | [], px, h => CwR.PET.of (hc px h)
  | (y, z) :: r, px, h => by
    unfold chkR at h
    split at h
    · rename_i po nm apos y' j1 p1 z' j2 p2 cpos
      simp only [Bool.and_eq_true, decide_eq_true_eq, Bool.not_eq_true'] at h
      obtain ⟨⟨⟨⟨⟨⟨h1, h2⟩, h3⟩, h4⟩, h5⟩, h6⟩, h7⟩ := h
      subst h1; subst h4; subst h5
      exact CwR.pet_replT (repl_pet F hc r po h7) h6 rfl (base_of h3) h2
    · cases h
theorem tRepls_ok {te : TE} {σ : L2.St} : ∀ (rs : List (Str × Str)) {H : Hp} {Q : VK}, te σ H (fun v H1 => ∃ x t, v = .str x ∧ replAll rs x = some t ∧ Q (.str t) H1) → (∀ {Q1 Q2 : VK}, (∀ v H, Q1 v H → Q2 v H) → te σ H Q1 → te σ H Q2) → tRepls rs te σ H Q
  | [], H, Q, h, mono => mono (fun v H1 ⟨x, t, e1, e2, q⟩ => by
      simp only [replAll, Option.some.injEq] at e2
      subst e1; subst e2
      exact q) h
  | (y, z) :: r, H, Q, h, mono => by
    show tRepls r te σ H fun v H1 => ∃ x, v = .str x ∧ x.length + (x.length + 1) * z.length ≤ 16777216 ∧ Q (.str (Txt.replace x y z)) H1
    refine tRepls_ok r (mono (fun v H1 ⟨x, t, e1, e2, q⟩ => ?_) h) mono
    simp only [replAll] at e2
    split at e2
    · rename_i u hu
      split at e2
      · rename_i hk
        cases e2
        exact ⟨x, u, e1, hu, u, rfl, of_decide_eq_true hk, q⟩
      · cases e2
    · cases e2
end
end Deep

set_option Elab.async false
set_option linter.all false
set_option maxRecDepth 100000
set_option maxHeartbeats 4000000
namespace Deep
open PySem PySem.Spec PyProof.Rows L2
section
variable {G : GT} {T : Tb} {P : Par} {k : Nat}
theorem rd_mono {α β : Type} {W : WX} {kd : Kind α β} {m : PEnv → Store → Res α} {σ : L2.St} {H : Hp} {Q1 Q2 : β → Hp → Prop} (i : ∀ b H, Q1 b H → Q2 b H) (h : rd T W kd m σ H Q1) : rd T W kd m σ H Q2 := by
  obtain ⟨ρ, S, env, he, hh, hs⟩ := h
  refine ⟨ρ, S, env, he, hh, ?_⟩
  cases q : m env S with
  | ok a S1 => rw [q] at hs; exact fun ρ1 H1 b e hh p => i b H1 (hs ρ1 H1 b e hh p)
  | exc x S1 => rw [q] at hs; exact hs
  | stuck => rw [q] at hs; exact hs.elim
theorem Sat.bindU {α β α' β' : Type} {W : WX} {σ : L2.St} {ρ : Rho} {H : Hp} {k1 : Kind α β} {k2 : Kind α' β'} {Q1 : β → Hp → Prop} {Q2 : β' → Hp → Prop} {m : Res α} {f : α → Store → Res α'} (hs : Sat T W σ ρ H k2 Q2 (m.bind f))
    (h : ∀ ρ1 S1 a v H1, Ext ρ ρ1 H H1 → HRep T ρ1 S1 H1 → k1.P T ρ1 H H1 a v → Sat T W σ ρ H k2 Q2 (f a S1) → Q1 v H1) : Sat T W σ ρ H k1 Q1 m := by
  cases m with
  | ok a S => exact fun ρ1 H1 v e hh p => h ρ1 S a v H1 e hh p hs
  | exc x S => exact hs
  | stuck => exact hs
/-- a statement about a value by its expression -/
theorem sat_val {W : WX} {σ : L2.St} {ρ : Rho} {H : Hp} {Q : VK} {x : RV} {v : V} {S : Store} (hh : HRep T ρ S H) (h : Sat T W σ ρ H kV Q (.ok x S)) (r : RepR T ρ H H x v) : Q v H := h ρ H v Ext.refl hh r
theorem chkEs_len : ∀ {c : Cs} {es : Es} {pes : List Expr}, chkEs G c es pes = true → pes.all plainB = true := by
  intro c es pes
  induction pes generalizing es with
  | nil => intro _; rfl
  | cons p ps ih =>
    intro h
    cases es with
    | nil => simp [chkEs] at h
    | cons e es =>
      simp only [chkEs, Bool.and_eq_true] at h
      rw [List.all_cons, h.1.1, ih h.2]
      rfl
def Es.len : Es → Nat
  | .nil => 0
  | .cons _ es => es.len + 1
theorem chkEs_lenE : ∀ {c : Cs} {es : Es} {pes : List Expr}, chkEs G c es pes = true → es.len = pes.length := by
  intro c es pes
  induction pes generalizing es with
  | nil =>
    intro h
    cases es with
    | nil => rfl
    | cons _ _ => simp [chkEs] at h
  | cons p ps ih =>
    intro h
    cases es with
    | nil => simp [chkEs] at h
    | cons e es =>
      simp only [chkEs, Bool.and_eq_true] at h
      show es.len + 1 = ps.length + 1
      rw [ih h.2]
theorem evalA_len : ∀ {es : Es} {env : PEnv} {S S' : Store} {xs : List PV}, evalA P es env S = .ok xs S' → xs.length = es.len
  | .nil, env, S, S', xs, h => by cases h; rfl
  | .cons e es, env, S, S', xs, h => by
    simp only [evalA] at h
    cases h1 : evalE P e env S with
    | stuck => rw [h1] at h; cases h
    | exc _ _ => rw [h1] at h; cases h
    | ok r S1 =>
      rw [h1] at h
      simp only [Res.bind] at h
      cases h2 : evalA P es env (settle r S1).2 with
      | stuck => rw [h2] at h; cases h
      | exc _ _ => rw [h2] at h; cases h
      | ok ys S2 =>
        rw [h2] at h
        cases h
        show ys.length + 1 = es.len + 1
        rw [evalA_len h2]
theorem few_of {env : Env} {pes : List Expr} {pos : Pos} (hp : pes.all plainB = true) (hl : pes.length < 28) : ((backTo pos (starEach pes env)).all (fun x => !x.1) && (backToKw pos (keywordEach [] env)).all (fun x => x.1.isSome)
      && decide (pes.length + ([] : List Keyword).length + (if ([] : List Keyword).isEmpty then 0 else 1) < 30)) = true := by
  rw [star_all' hp]
  have h2 : decide (pes.length + ([] : List Keyword).length + (if ([] : List Keyword).isEmpty then 0 else 1) < 30) = true := decide_eq_true (by show pes.length + 0 + 0 < 30; omega)
  rw [h2]
  rfl
theorem pe_call0SD {X : Cx} {CX : CXT} {f : Addr} {fd : FuncData} {ps : List Str} {sp : Sp} {E : L2.St → XK} {x : Str} {p pos : Pos} (F : FnOk X.prog X.w X.K X.mg X.base CX k f fd ps sp) (hr : Room k X.A) (hg : Gl X x) (hm : X.mg x = some (.ref f)) (hk : PySem.W.keepIn X.K (.ref f) = true) (hb : Binds X.K fd ps [])
    (hx : ∀ σ, PassesAt CX X σ (E σ)) (hdb : (x == ("__debug__" : Str)) = false) : PE X (.Call (.Name x p) [] [] pos) (tCallSD sp [] E tNil) := by
  refine ⟨fun pins s σ H Q I h => ?_⟩
  refine wpAny_Call_Name_kw (ld_glob I hg hm ?_ hdb)
  exact PySem.W.callWith_K0 I.kIn hk (run_fnSD (us := []) F hr hb .nil (hx σ) I .nil h)
theorem free_bi (b : Bi) : b.name ∈ freeNames := by cases b <;> simp [Bi.name, freeNames]
theorem isi_free : ("isinstance" : Str) ∈ freeNames := by simp [freeNames]
theorem ty_free {ty : String} (h : ty ∈ tyNames) : Str.ofString ty ∈ freeNames := by
  simp only [tyNames, List.mem_cons, List.mem_nil_iff, or_false] at h
  rcases h with rfl | rfl | rfl | rfl | rfl | rfl <;> simp [freeNames]
theorem ty_boot {ty : String} (h : ty ∈ tyNames) : bootBuiltins (Str.ofString ty) = some (.type ty) := by
  simp only [tyNames, List.mem_cons, List.mem_nil_iff, or_false] at h
  rcases h with rfl | rfl | rfl | rfl | rfl | rfl
  · exact PyProof.Rows.boot_int
  · exact PyProof.Rows.boot_bool
  · exact PyProof.Rows.boot_str
  · exact PyProof.Rows.boot_tuple
  · exact PyProof.Rows.boot_list
  · exact PyProof.Rows.boot_dict
/-- the truth of an expression that is none of the logical ones -/
theorem truth_of {X : Cx} {W : WX} {c : Cs} {px : Expr} {m : PEnv → Store → Res RV} {m' : PEnv → Store → Res Bool} (F : Fit G T W P k c X) (h : PE X px (rd T W kV m))
    (hp : ∀ whole, isTrue px X.env whole = (do let v ← whole; standAt px.pos; holding [v] (PySem.truthy v))) (e : ∀ env S, m' env S = (m env S).bind fun x S1 => .of (Deep.truthy x S1) S1) : PT X px (rd T W kB m') := by
  refine pt_imp (pt_truth h hp) fun σ H Q q => ?_
  obtain ⟨ρ, S, env, he, hh, hs⟩ := q
  rw [e] at hs
  refine ⟨ρ, S, env, he, hh, Sat.bindK hs fun ρ1 S1 r v H1 e1 hh1 rr hs1 => ?_⟩
  obtain ⟨b, hb, hs2⟩ := hs1.ofK
  exact ⟨b, by rw [F.K]; exact truthy_ok hh1 rr hb, Sat.done hs2 hh1 rfl⟩
theorem relS_kind {scope sc : Scope} : (relS scope sc).kind = scope.kind := rfl
/-- what fits a def's text fits the block of a comprehension in it -/
theorem Fit.blk {W : WX} {c : Cs} {X : Cx} (F : Fit G T W P k c X) {scope : Scope} (s : Shared) (H : Hp) (C : Addr) (cl : List (Str × Addr)) (fp : List Addr) :
    Fit G T (fun _ _ _ _ => False) P k (inner c scope) (X.blk s H scope (compEnvC scope cl C X.env) fp) := by
  have hsc : (compEnvC scope cl C X.env).scope = relS scope c.sc := by rw [← F.sc]; rfl
  refine ⟨F.N, hsc, F.nd, F.calm, F.K, F.room, F.fns, takes0, fun x hx => ?_⟩
  have key : ∀ kd, kd ≠ NameKind.free → scope.names.lookup x = some kd → (relS scope c.sc).names.lookup x = some kd := fun kd h1 h2 => lookup_relS_keep h1 h2
  unfold bndB at hx
  have hx : (match scope.names.lookup x with
    | some .local => true
    | some .cell => true
    | _ => false) = true := hx
  split at hx
  · rename_i q
    have z := key .local (by decide) q
    exact ⟨.inl (by rw [hsc]; exact z), .inr (by rw [hsc]; exact z)⟩
  · rename_i q
    have z := key .cell (by decide) q
    exact ⟨.inr (by rw [hsc]; exact z), .inl (by show (scope.names.lookup x == some .cell) = true; rw [q]; rfl)⟩
  · cases hx

/-! ### the loop of a list comprehension -/
theorem ext_late {ρ ρ' : Rho} {H H' : Hp} {D : Addr} {xs zs : List V} (e : Ext ρ ρ' H H') (h0 : H D = none) (h1 : H' D = some (.lst xs)) : Ext ρ ρ' H (upd H' D (.lst zs)) := by
  have ne : ∀ b u, H b = some u → b ≠ D := fun b u z y => by rw [y, h0] at z; cases z
  refine ⟨e.sub, fun b us z => by rw [upd_ne (ne _ _ z)]; exact e.tup _ _ z, fun b o u z => by rw [upd_ne (ne _ _ z)]; exact e.frz _ _ _ z, fun b o z hb => by rw [upd_ne (ne _ _ z)]; exact e.frame _ _ z hb, e.new, fun b z => ?_⟩
  by_cases hb : b = D
  · rw [hb, upd_same]; exact fun y => nomatch y
  · rw [upd_ne hb]; exact e.dom b z
theorem keep_late {H : Hp} {D : Addr} {xs zs : List V} (h1 : H D = some (.lst xs)) : Keeps H (upd H D (.lst zs)) :=
  ⟨fun b us z => by rw [upd_ne (fun y => by rw [y, h1] at z; cases z)]; exact z, fun b o u z => by rw [upd_ne (fun y => by rw [y, h1] at z; cases z)]; exact z⟩
theorem HRep.other {ρ : Rho} {S : Store} {H : Hp} {D : Addr} {xs zs : List V} (hh : HRep T ρ S H) (h1 : H D = some (.lst xs)) (hD : ∀ n, ρ n ≠ some D) : HRep T ρ S (upd H D (.lst zs)) :=
  ⟨fun n o q => (hh.obj n o q).mono (fun _ _ z => z) (keep_late h1) fun a vs z1 z2 => by rw [upd_ne (fun y => by rw [y] at z1; exact hD n z1)]; exact z2, hh.dom, hh.rof, hh.inj⟩
theorem wipe_sub {σ : L2.St} {vs : List Nat} : ∀ {us : List Nat}, (∀ i ∈ us, i ∈ vs) → wipe (wipe σ us) vs = wipe σ vs
  | [], _ => rfl
  | u :: us, h => by
    show wipe ((wipe σ us).set u none) vs = wipe σ vs
    rw [wipe_set (h u List.mem_cons_self), wipe_sub fun i hi => h i (List.mem_cons_of_mem _ hi)]
/-- one turn, as lcLoop has it -/
def lcStep (P : Par) (tg : Tg) (cond : Pt) (elt : E) (own : List Nat) (env : PEnv) (x : PV) (S : Store) : Res (Option RV) := match bindT tg (.v x) (forget env own) S with
  | some (e, S3) => (evalC P cond e S3).bind fun k S4 => if k then (evalE P elt e S4).bind fun r S5 => .ok (some r) S5 else .ok none S4
  | none => .stuck
theorem lc_read {W : WX} {σ : L2.St} {ρ : Rho} {S : Store} {env : PEnv} {H : Hp} {Q : VK} {tg : Tg} {it : It} {cond : Pt} {elt : E} {own : List Nat} (he : EnvRep T ρ H env σ) (hh : HRep T ρ S H)
    (hs : Sat T W σ ρ H kV Q (evalE P (.lc elt tg it cond own) env S)) (hsl : ∀ i ∈ tg.slots, i ∈ own) :
    tLc (rd T W kI (evalI P it)) (rdG T tg) (rd T (fun _ _ _ _ => False) kB (evalC P cond)) (rd T (fun _ _ _ _ => False) kV (evalE P elt)) own σ H Q := by
  have hs : Sat T W σ ρ H kV Q ((evalI P it env S).bind fun p S1 => (lcLoop p.2 (lcStep P tg cond elt own env) p.1 [] S1).bind fun xs S2 => .ok (.lst xs) S2) := hs
  refine ⟨ρ, S, env, he, hh, Sat.bindK hs fun ρ1 S1 p J H1 e1 hh1 src hs1 => ?_⟩
  obtain ⟨xs, g⟩ := p
  intro D hD
  have he1 := he.ext e1
  refine ⟨fun i m H2 => ∃ ρ2 S2 rest acc vs, rest = xs.drop i ∧ i + rest.length = xs.length ∧ m = rest.length ∧ Ext ρ1 ρ2 H1 H2 ∧ H2 D = some (.lst vs) ∧ RepL T ρ2 H2 acc vs ∧ (∀ n, ρ2 n ≠ some D) ∧ HRep T ρ2 S2 H2 ∧
    Sat T W σ ρ1 H1 kV Q ((lcLoop g (lcStep P tg cond elt own env) rest acc S2).bind fun xs S3 => .ok (.lst xs) S3), ⟨xs.length, ρ1, S1, xs, [], [], by simp, by simp, rfl, ext_new hD, upd_same, .nil, hh1.notAt hD, hh1.new hD, hs1⟩, ?_⟩
  rintro i m H2 ⟨ρ2, S2, rest, acc, vs, hr, hlen, rfl, e2, hD2, ra, nD, hh2, hs2⟩
  have gok : g.ok S2 = true := by
    cases hg : g.ok S2 with
    | true => rfl
    | false => cases rest <;> (simp only [lcLoop, hg, Bool.false_eq_true, if_false] at hs2; exact hs2.elim)
  have sr := src ρ2 S2 H2 i e2 hh2 gok
  cases rest with
  | nil =>
    refine .inl ⟨sr.2 (by simpa using hlen), ?_⟩
    simp only [lcLoop, gok, if_true] at hs2
    exact hs2 ρ2 H2 _ e2 hh2 ⟨D, vs, rfl, hD2, ra, nD, hD⟩
  | cons x rest =>
    have hx : xs[i]? = some x := by
      have h0 : (xs.drop i)[0]? = some x := by rw [← hr]; rfl
      rw [List.getElem?_drop] at h0
      simpa using h0
    have hr' : rest = xs.drop (i + 1) := by
      have h0 : (xs.drop i).drop 1 = rest := by rw [← hr]; rfl
      rw [List.drop_drop] at h0
      exact h0.symm
    have hlen' : (i + 1) + rest.length = xs.length := by rw [List.length_cons] at hlen; omega
    obtain ⟨go, yld⟩ := sr.1 x hx
    refine .inr ⟨go, fun H' => ∃ ρ' S' acc' vs', Ext ρ1 ρ' H1 H' ∧ H' D = some (.lst vs') ∧ RepL T ρ' H' acc' vs' ∧ (∀ n, ρ' n ≠ some D) ∧ HRep T ρ' S' H' ∧
      Sat T W σ ρ1 H1 kV Q ((lcLoop g (lcStep P tg cond elt own env) rest acc' S').bind fun xs S3 => .ok (.lst xs) S3), fun H' ⟨ρ', S', acc', vs', z⟩ => ?_, fun v H3 hy => ?_⟩
    · exact ⟨rest.length, Nat.lt_succ_self _, ρ', S', rest, acc', vs', hr', hlen', rfl, z⟩
    obtain ⟨e3, hh3, rx⟩ := yld v H3 hy
    have ef : Ext ρ ρ2 H H3 := e1.trans (e2.trans e3)
    have hD3 : H3 D = some (.lst vs) := e3.frame _ _ hD2 nD
    simp only [lcLoop, gok, if_true] at hs2
    -- the turn's outcome
    cases hb : bindT tg (.v x) (forget env own) S2 with
    | none => simp only [lcStep, hb] at hs2; exact hs2.elim
    | some q =>
      obtain ⟨e4, S4⟩ := q
      simp only [lcStep, hb] at hs2
      refine ⟨ρ2, H3, ρ2, S2, forget env own, .v x, Ext.refl, (he.ext ef).forget own, hh3, rx, e4, S4, hb, fun ρ4 σ4 f1 f2 f3 f4 f5 => ⟨(f5 own hsl).trans (wipe_sub fun _ z => z), ?_⟩⟩
      refine ⟨ρ4, S4, e4, f4, f3, ?_⟩
      cases hc : evalC P cond e4 S4 with
      | stuck => rw [hc] at hs2; exact hs2.elim
      | exc y S5 => rw [hc] at hs2; exact hs2.elim
      | ok b S5 =>
        rw [hc] at hs2
        intro ρ5 H5 b' e5 hh5 eb
        have eb : b = b' := eb
        subst eb
        have nD5 : ∀ n, ρ5 n ≠ some D := fun n z => by
          rcases (f1.trans e5).new n D z with z | z
          · exact nD n z
          · rw [hD3] at z; cases z
        have hD5 : H5 D = some (.lst vs) := (f1.trans e5).frame _ _ hD3 nD
        have e15 : Ext ρ1 ρ5 H1 H5 := e2.trans (e3.trans (f1.trans e5))
        cases b with
        | false =>
          simp only [Bool.false_eq_true, if_false, Res.bind] at hs2 ⊢
          exact ⟨ρ5, S5, acc, vs, e15, hD5, ra.ext (e3.trans (f1.trans e5)), nD5, hh5, hs2⟩
        | true =>
          simp only [if_true, Res.bind] at hs2 ⊢
          refine ⟨ρ5, S5, e4, f4.ext e5, hh5, ?_⟩
          cases hE : evalE P elt e4 S5 with
          | stuck => rw [hE] at hs2; exact hs2.elim
          | exc y S6 => rw [hE] at hs2; exact hs2.elim
          | ok r S6 =>
            rw [hE] at hs2
            simp only at hs2
            intro ρ6 H6 y e6 hh6 rr
            have hl : acc.length < sizeLine := by
              by_cases hl : acc.length < sizeLine
              · exact hl
              · rw [if_neg hl] at hs2; exact hs2.elim
            rw [if_pos hl] at hs2
            have e16 : Ext ρ1 ρ6 H1 H6 := e15.trans e6
            have hD6 : H6 D = some (.lst vs) := e6.frame _ _ hD5 nD5
            obtain ⟨ρ7, e7, hh7, ry, sub7⟩ := settle_rep e6 hh6 rr
            have nD7 : ∀ n, ρ7 n ≠ some D := fun n z => by
              rcases e7.new n D z with z | z
              · exact nD5 n z
              · rw [hD5] at z; cases z
            have kp := keep_late (zs := vs ++ [y]) hD6
            have ra7 : RepL T ρ7 H6 acc vs := (ra.ext (e3.trans (f1.trans e5))).ext e7
            refine ⟨vs, hD6, by rw [← ra.length]; exact hl, ρ7, (settle r S6).2, acc ++ [(settle r S6).1], vs ++ [y], ext_late (e15.trans e7) hD hD6, upd_same, ?_, nD7, hh7.other hD6 nD7, hs2⟩
            exact (ra7.mono (fun _ _ z => z) kp).append (.cons (ry.mono (fun _ _ z => z) kp) .nil)
end
end Deep

set_option Elab.async false
set_option linter.all false
set_option maxRecDepth 100000
set_option maxHeartbeats 8000000
namespace Deep
open PySem PySem.Spec PyProof.Rows L2
section
variable {G : GT} {T : Tb} {P : Par} {k : Nat}
/-- PW for any expression whose test is that of its own form -/
def isLog : E → Bool
  | .and _ _ => true
  | .and1 _ => true
  | .or _ _ => true
  | .or1 _ => true
  | _ => false
mutual
theorem snd_E : ∀ (e : E) {W : WX} {c : Cs} {X : Cx} (px : Expr), Fit G T W P k c X → chkE G c e px = true → PE X px (rd T W kV (evalE P e))
  | .var i, W, c, X, px, F, h => by
    unfold chkE at h
    split at h
    · obtain ⟨h1, h2, h3, h4⟩ := nameB_ok F h
      refine pe_imp (pe_var h1 h2 h3 h4) fun σ H Q ⟨ρ, S, env, he, hh, hs⟩ => ?_
      simp only [evalE] at hs
      split at hs
      · rename_i x hx
        obtain ⟨v, e1, e2⟩ := he.get i x hx
        exact ⟨v, e1, sat_val hh hs e2⟩
      · exact hs.elim
    · cases h
  | .non, W, c, X, px, F, h => by
    unfold chkE at h
    split at h
    · exact pe_imp pe_non fun σ H Q ⟨ρ, S, env, he, hh, hs⟩ => sat_val (x := .v .non) hh hs .non
    · cases h
  | .bool b, W, c, X, px, F, h => by
    unfold chkE at h
    split at h
    · have h := of_decide_eq_true h
      subst h
      exact pe_imp pe_bl fun σ H Q ⟨ρ, S, env, he, hh, hs⟩ => sat_val (x := .v (.bool b)) hh hs (.bool b)
    · cases h
  | .int i, W, c, X, px, F, h => by
    unfold chkE at h
    split at h
    · have h := of_decide_eq_true h
      subst h
      exact pe_imp pe_int fun σ H Q ⟨ρ, S, env, he, hh, hs⟩ => sat_val (x := .v (.int i)) hh hs (.int i)
    · cases h
  | .str z, W, c, X, px, F, h => by
    unfold chkE at h
    split at h
    · have h := of_decide_eq_true h
      subst h
      exact pe_imp pe_str fun σ H Q ⟨ρ, S, env, he, hh, hs⟩ => sat_val (x := .v (.str z)) hh hs (.str z)
    · cases h
  | .glob g, W, c, X, px, F, h => by
    unfold chkE at h
    split at h
    · simp only [Bool.and_eq_true, decide_eq_true_eq] at h
      obtain ⟨h1, h2⟩ := h
      obtain ⟨g1, g2, g3⟩ := gloB_ok F h2
      cases hg : P.glob g with
      | none =>
        refine ⟨fun pins s σ H Q I ⟨ρ, S, env, he, hh, hs⟩ => ?_⟩
        simp only [evalE, hg] at hs
        exact hs.elim
      | some x =>
        obtain ⟨u, v, e1, e2, e3⟩ := F.fns.gl g x hg
        rw [← h1] at e1
        refine pe_imp (pe_glob g1 e1 e2 g2) fun σ H Q ⟨ρ, S, env, he, hh, hs⟩ => ?_
        simp only [evalE, hg] at hs
        exact sat_val (x := .v x) hh hs (e3 ρ H)
    · cases h
  | .bin op a b, W, c, X, px, F, h => by
    unfold chkE at h
    split at h
    · simp only [Bool.and_eq_true, decide_eq_true_eq] at h
      obtain ⟨⟨h1, h2⟩, h3⟩ := h
      subst h1
      refine pe_imp (pe_op (bin_op op) (snd_E a _ F h2) (snd_E b _ F h3)) fun σ H Q ⟨ρ, S, env, he, hh, hs⟩ => ?_
      refine ⟨ρ, S, env, he, hh, Sat.bindK hs fun ρ1 S1 x vx H1 e1 hh1 rx hs1 => ⟨ρ1, S1, env, he.ext e1, hh1, Sat.bindK hs1 fun ρ2 S2 y vy H2 e2 hh2 ry hs2 => ?_⟩⟩
      obtain ⟨z, hz, hs3⟩ := hs2.ofK
      rw [F.K]
      exact bin_ok op hh2 (rx.ext e2) ry hz hs3.out
    · cases h
  | .cmp op a b, W, c, X, px, F, h => by
    unfold chkE at h
    split at h
    · simp only [Bool.and_eq_true, decide_eq_true_eq] at h
      obtain ⟨⟨⟨h1, h0⟩, h2⟩, h3⟩ := h
      subst h1
      refine pe_imp (pe_cmpR (cmp_op F.hu op) (snd_E a _ F h2) (snd_E b _ F h3) (mark_of h0)) fun σ H Q ⟨ρ, S, env, he, hh, hs⟩ => ?_
      refine ⟨ρ, S, env, he, hh, Sat.bindK hs fun ρ1 S1 x vx H1 e1 hh1 rx hs1 => ⟨ρ1, S1, env, he.ext e1, hh1, Sat.bindK hs1 fun ρ2 S2 y vy H2 e2 hh2 ry hs2 => ?_⟩⟩
      obtain ⟨z, hz, hs3⟩ := hs2.ofK
      obtain ⟨b, hb, rfl⟩ := Option.map_eq_some_iff.mp hz
      rw [F.K]
      exact cmp_ok op hh2 (rx.ext e2) ry hb (hs3.out.val hh2 (.bool b))
    · cases h
  | .and a b, W, c, X, px, F, h => by
    unfold chkE at h
    split at h
    · simp only [Bool.and_eq_true] at h
      refine pe_imp (pe_andT (snd_E a _ F h.1) (snd_E b _ F h.2)) fun σ H Q ⟨ρ, S, env, he, hh, hs⟩ => ?_
      refine ⟨ρ, S, env, he, hh, Sat.bindU hs fun ρ1 S1 x vx H1 e1 hh1 rx hs1 => ?_⟩
      split at hs1
      · rename_i ht
        refine ⟨true, by rw [F.K]; exact truthy_ok hh1 rx ht, ?_⟩
        rw [if_pos rfl]
        exact ⟨ρ1, S1, env, he.ext e1, hh1, hs1.shift e1⟩
      · rename_i ht
        refine ⟨false, by rw [F.K]; exact truthy_ok hh1 rx ht, ?_⟩
        rw [if_neg Bool.false_ne_true]
        exact hs1 ρ1 H1 vx e1 hh1 rx
      · exact hs1.elim
    · cases h
  | .and1 a, W, c, X, px, F, h => by
    unfold chkE at h
    split at h
    · exact pe_one (snd_E a _ F h)
    · cases h
  | .or a b, W, c, X, px, F, h => by
    unfold chkE at h
    split at h
    · simp only [Bool.and_eq_true] at h
      refine pe_imp (pe_orT (snd_E a _ F h.1) (snd_E b _ F h.2)) fun σ H Q ⟨ρ, S, env, he, hh, hs⟩ => ?_
      refine ⟨ρ, S, env, he, hh, Sat.bindU hs fun ρ1 S1 x vx H1 e1 hh1 rx hs1 => ?_⟩
      split at hs1
      · rename_i ht
        refine ⟨false, by rw [F.K]; exact truthy_ok hh1 rx ht, ?_⟩
        rw [if_neg Bool.false_ne_true]
        exact ⟨ρ1, S1, env, he.ext e1, hh1, hs1.shift e1⟩
      · rename_i ht
        refine ⟨true, by rw [F.K]; exact truthy_ok hh1 rx ht, ?_⟩
        rw [if_pos rfl]
        exact hs1 ρ1 H1 vx e1 hh1 rx
      · exact hs1.elim
    · cases h
  | .or1 a, W, c, X, px, F, h => by
    unfold chkE at h
    split at h
    · exact pe_one (snd_E a _ F h)
    · cases h
  | .not a, W, c, X, px, F, h => by
    unfold chkE at h
    split at h
    · refine pe_imp (pe_notT (snd_E a _ F h)) fun σ H Q ⟨ρ, S, env, he, hh, hs⟩ => ?_
      refine ⟨ρ, S, env, he, hh, Sat.bindK hs fun ρ1 S1 x vx H1 e1 hh1 rx hs1 => ?_⟩
      obtain ⟨z, hz, hs2⟩ := hs1.ofK
      obtain ⟨b, hb, rfl⟩ := Option.map_eq_some_iff.mp hz
      exact ⟨b, by rw [F.K]; exact truthy_ok hh1 rx hb, hs2.out.val hh1 (.bool _)⟩
    · cases h
  | .neg a, W, c, X, px, F, h => by
    unfold chkE at h
    split at h
    · refine pe_imp (pe_un un_neg (snd_E a _ F h)) fun σ H Q ⟨ρ, S, env, he, hh, hs⟩ => ?_
      refine ⟨ρ, S, env, he, hh, Sat.bindK hs fun ρ1 S1 x vx H1 e1 hh1 rx hs1 => ?_⟩
      split at hs1
      · rename_i i
        cases rx
        exact ⟨i, rfl, hs1.out.val hh1 (.int _)⟩
      · exact hs1.elim
    · cases h
  | .ife t a b, W, c, X, px, F, h => by
    unfold chkE at h
    split at h
    · simp only [Bool.and_eq_true] at h
      refine pe_imp (pe_ifExp (snd_T t _ F h.1.1) (snd_E a _ F h.1.2) (snd_E b _ F h.2)) fun σ H Q ⟨ρ, S, env, he, hh, hs⟩ => ?_
      refine ⟨ρ, S, env, he, hh, Sat.bindK hs fun ρ1 S1 x vx H1 e1 hh1 rx hs1 => ?_⟩
      have rx : x = vx := rx
      subst rx
      cases x with
      | true => rw [if_pos rfl]; exact ⟨ρ1, S1, env, he.ext e1, hh1, hs1⟩
      | false => rw [if_neg Bool.false_ne_true]; exact ⟨ρ1, S1, env, he.ext e1, hh1, hs1⟩
    · cases h
  | .tup es, W, c, X, px, F, h => by
    unfold chkE at h
    split at h
    · refine pe_imp (pe_tup (snd_A es _ F h)) fun σ H Q ⟨ρ, S, env, he, hh, hs⟩ => ?_
      refine ⟨ρ, S, env, he, hh, Sat.bindK hs fun ρ1 S1 xs vs H1 e1 hh1 rx hs1 => ?_⟩
      split at hs1
      · rename_i hl
        exact ⟨by rw [← RepL.length rx]; exact hl, fun p hp => hs1.out.tup hh1 rx hp⟩
      · exact hs1.elim
    · cases h
  | .lst es, W, c, X, px, F, h => by
    unfold chkE at h
    split at h
    · refine pe_imp (pe_lst (snd_A es _ F h)) fun σ H Q ⟨ρ, S, env, he, hh, hs⟩ => ?_
      refine ⟨ρ, S, env, he, hh, Sat.bindK hs fun ρ1 S1 xs vs H1 e1 hh1 rx hs1 => ?_⟩
      split at hs1
      · rename_i hl
        exact ⟨by rw [← RepL.length rx]; exact hl, fun p hp => hs1.out.lst hh1 rx hp⟩
      · exact hs1.elim
    · cases h
  | .call f es, W, c, X, px, F, h => by
    unfold chkE at h
    split at h
    · rename_i x p pes pos
      simp only [Bool.and_eq_true, decide_eq_true_eq] at h
      obtain ⟨⟨⟨h1, h2⟩, h3⟩, h4⟩ := h
      subst h1
      obtain ⟨g1, g2, g3⟩ := gloB_ok F h2
      obtain ⟨a, fdt, ps, m1, m2, m3, m4⟩ := F.fns.fn f _ h3
      have hp := chkEs_len h4
      have FK : FnOk X.prog X.w X.K X.mg X.base (CX X.prog X.w) k a fdt ps (spF T pes.length (P.call f)) := by rw [F.K]; exact m3
      have BK : Binds X.K fdt ps [] := by rw [F.K]; exact m4
      have KK : PySem.W.keepIn X.K (.ref a) = true := by rw [F.K]; exact m2
      have hx : ∀ σ, PassesAt (CX X.prog X.w) X σ (fun cls d H => W cls d σ H) := fun σ pins H s e s' I c => F.tk e s' (XE.of_call I (fun _ _ _ z => z) c)
      have A := snd_A es pes F h4
      have main : ∀ σ H Q, rd T W kV (evalE P (.call f es)) σ H Q → tCallSD (spF T pes.length (P.call f)) [] (fun σ cls d H => W cls d σ H) (rd T W kA (evalA P es)) σ H Q := fun σ H Q ⟨ρ, S, env, he, hh, hs⟩ => by
        refine ⟨ρ, S, env, he, hh, ?_⟩
        simp only [evalE] at hs
        cases hm : evalA P es env S with
        | stuck => rw [hm] at hs; exact hs.elim
        | exc y S1 => rw [hm] at hs; exact hs
        | ok xs S1 =>
          rw [hm] at hs
          intro ρ1 H1 vs e1 hh1 rx
          have rx : RepL T ρ1 H1 xs vs := rx
          have hs : Sat T W σ ρ H kV Q (P.call f xs S1) := hs
          have hs := hs.shift e1
          rw [List.append_nil]
          refine ⟨by rw [← rx.length, evalA_len hm, chkEs_lenE h4], ρ1, S1, xs, hh1, rx, ?_⟩
          cases hr : P.call f xs S1 with
          | stuck => rw [hr] at hs; exact hs
          | exc y S2 => rw [hr] at hs; exact hs
          | ok r S2 => rw [hr] at hs; exact hs
      cases pes with
      | nil =>
        cases es with
        | cons _ _ => simp [chkEs] at h4
        | nil =>
          refine pe_imp (pe_call0SD FK F.room g1 m1 KK BK hx g2) fun σ H Q q => ?_
          obtain ⟨ρ, S, env, he, hh, hs⟩ := main σ H Q q
          exact hs ρ H [] Ext.refl hh .nil
      | cons e r =>
        simp only [List.all_cons, Bool.and_eq_true] at hp
        exact pe_imp (pe_callSD FK F.room g1 m1 KK BK .nil hx A g2 (star_cons hp.1) (star_all hp.2)) main
    · cases h
  | .bcall b es, W, c, X, px, F, h => by
    unfold chkE at h
    split at h
    · rename_i x p pe pes pos
      simp only [Bool.and_eq_true, decide_eq_true_eq] at h
      obtain ⟨⟨h1, h2⟩, h3⟩ := h
      subst h1
      obtain ⟨g1, g2, g3⟩ := gloB_ok F h2
      have hp := chkEs_len h3
      simp only [List.all_cons, Bool.and_eq_true] at hp
      have fr := free_ok F (free_bi b)
      have bt := b.boot
      have cl := bi_call (X := X) F.calm b
      have A := snd_R es (pe :: pes) F h3
      have main : ∀ σ H Q, rd T W kV (evalE P (.bcall b es)) σ H Q → tCB (rBi X.K b) (rd T W kR (evalR P es)) σ H Q := fun σ H Q ⟨ρ, S, env, he, hh, hs⟩ => by
        refine ⟨ρ, S, env, he, hh, Sat.bindK hs fun ρ1 S1 xs vs H1 e1 hh1 rx hs1 => ?_⟩
        obtain ⟨z, hz, hs2⟩ := hs1.ofK
        rw [F.K]
        exact bi_ok b hh1 rx hz hs2.out
      unfold Bi.val at bt cl
      cases q : b.ty with
      | none =>
        rw [q] at bt cl
        exact pe_imp (pe_callB cl g1 fr bt A g3 g2 (star_cons hp.1) (star_all hp.2)) main
      | some t =>
        rw [q] at bt cl
        exact pe_imp (pe_callTy cl g1 fr bt A g3 g2 (star_cons hp.1) (star_all hp.2)) main
    · cases h
  | .isi ty a, W, c, X, px, F, h => by
    unfold chkE at h
    split at h
    · rename_i x p pa y p2 pos
      simp only [Bool.and_eq_true, decide_eq_true_eq] at h
      obtain ⟨⟨⟨⟨⟨⟨h1, h2⟩, h3⟩, h4⟩, h5⟩, h6⟩, h7⟩ := h
      subst h1; subst h4
      obtain ⟨g1, g2, g3⟩ := gloB_ok F h2
      obtain ⟨k1, k2, k3⟩ := gloB_ok F h5
      have hn : PE X (.Name (Str.ofString ty) p2) (tC (.ty ty)) := pe_bltn k1 (free_ok F (ty_free h6)) (ty_boot h6) rfl k3 k2
      have A := pa_cons (snd_E a pa F h7) (pa_cons hn pa_nil (star_cons rfl)) (star_cons h3)
      refine pe_imp (pe_callB call_isi g1 (free_ok F isi_free) PyProof.Rows.boot_isinstance A g3 g2 (star_cons h3) (star_all (by rfl))) fun σ H Q ⟨ρ, S, env, he, hh, hs⟩ => ?_
      refine ⟨ρ, S, env, he, hh, Sat.bindK hs fun ρ1 S1 r v H1 e1 hh1 rx hs1 => ?_⟩
      obtain ⟨z, hz, hs2⟩ := hs1.ofK
      obtain ⟨b, hb, rfl⟩ := Option.map_eq_some_iff.mp hz
      show rIsi X.K [v, .ty ty] H1 Q
      rw [F.K]
      exact isi_ok hh1 rx hb (hs2.out.val hh1 (.bool _))
    · cases h
  | .meth m o es, W, c, X, px, F, h => by
    unfold chkE at h
    split at h
    · rename_i po nm apos pes cpos
      simp only [Bool.and_eq_true, decide_eq_true_eq] at h
      obtain ⟨⟨⟨⟨⟨h1, h2⟩, h3⟩, h4⟩, h5⟩, h6⟩ := h
      subst h1
      have hp := chkEs_len h6
      have A := snd_R es pes F h6
      have O := snd_E o po F h5
      cases pes with
      | nil =>
        cases es with
        | cons _ _ => simp [chkEs] at h6
        | nil =>
          refine pe_imp (pe_bm0 m.plain m.slot m.typ (me_mt m) O (base_of h3) h2) fun σ H Q ⟨ρ, S, env, he, hh, hs⟩ => ?_
          refine ⟨ρ, S, env, he, hh, Sat.bindK hs fun ρ1 S1 x vx H1 e1 hh1 rx hs1 => ?_⟩
          split at hs1
          · rename_i hr
            have hs1 : Sat T W σ ρ1 H1 kV Q (.ofS (meRV m x [] S1)) := hs1
            cases hz : meRV m x [] S1 with
            | none => rw [hz] at hs1; exact hs1.elim
            | some p =>
              obtain ⟨z, S2⟩ := p
              rw [hz] at hs1
              rw [F.K]
              exact ⟨me_ty m hh1 rx hr, me_ok (H1 := H1) m hh1 rx .nil hz hs1⟩
          · exact hs1.elim
      | cons e r =>
        have hp0 := hp
        simp only [List.all_cons, Bool.and_eq_true] at hp
        refine pe_imp (pe_bm m.plain m.slot m.typ (me_mt m) O A (base_of h3) (few_of hp0 h4) h2 (star_cons hp.1) (star_all hp.2)) fun σ H Q ⟨ρ, S, env, he, hh, hs⟩ => ?_
        refine ⟨ρ, S, env, he, hh, Sat.bindK hs fun ρ1 S1 x vx H1 e1 hh1 rx hs1 => ?_⟩
        split at hs1
        · rename_i hr
          refine ⟨by rw [F.K]; exact me_ty m hh1 rx hr, ρ1, S1, env, he.ext e1, hh1, Sat.bindK hs1 fun ρ2 S2 rs vs H2 e2 hh2 rrs hs2 => ?_⟩
          cases hz : meRV m x rs S2 with
          | none => rw [hz] at hs2; exact hs2.elim
          | some p =>
            obtain ⟨z, S3⟩ := p
            rw [hz] at hs2
            rw [F.K]
            exact me_ok m hh2 (rx.ext e2) rrs hz hs2
        · exact hs1.elim
    · cases h
  | .repl z o rs, W, c, X, px, F, h => by
    unfold chkE at h
    split at h
    · rename_i z' j p pr pos
      simp only [Bool.and_eq_true, decide_eq_true_eq] at h
      obtain ⟨h1, h2⟩ := h
      subst h1
      have R := repl_pet F (te := rd T W kV (evalE P o)) (fun q hq => snd_E o q F hq) rs pr h2
      refine pe_imp (pe_constAdd op_add_str R) fun σ H Q ⟨ρ, S, env, he, hh, hs⟩ => ?_
      refine tRepls_ok rs ?_ (fun i h => rd_mono i h)
      refine ⟨ρ, S, env, he, hh, Sat.bindK hs fun ρ1 S1 r v H1 e1 hh1 rx hs1 => ?_⟩
      split at hs1
      · rename_i y
        split at hs1
        · rename_i t ht
          split at hs1
          · rename_i hl
            cases rx
            exact ⟨y, t, rfl, ht, z, t, rfl, rfl, hl, hs1.out.val hh1 (.str _)⟩
          · exact hs1.elim
        · exact hs1.elim
      · exact hs1.elim
    · cases h
  | .ix a b, W, c, X, px, F, h => by
    unfold chkE at h
    split at h
    · simp only [Bool.and_eq_true] at h
      refine pe_imp (pe_ix ix_seq (snd_E a _ F h.1.2) (snd_E b _ F h.2) (ix_of h.1.1)) fun σ H Q ⟨ρ, S, env, he, hh, hs⟩ => ?_
      refine ⟨ρ, S, env, he, hh, Sat.bindK hs fun ρ1 S1 x vx H1 e1 hh1 rx hs1 => ⟨ρ1, S1, env, he.ext e1, hh1, Sat.bindK hs1 fun ρ2 S2 y vy H2 e2 hh2 ry hs2 => ?_⟩⟩
      obtain ⟨z, hz, hs3⟩ := hs2.ofK
      rw [F.K]
      exact ix_ok hh2 (rx.ext e2) ry hz hs3.out
    · cases h
  | .slc a lo hi, W, c, X, px, F, h => by
    unfold chkE at h
    split at h
    · simp only [Bool.and_eq_true] at h
      refine pe_imp (pe_slice sl_op (snd_E a _ F h.1.1) (snd_O lo _ F h.1.2) (snd_O hi _ F h.2)) fun σ H Q ⟨ρ, S, env, he, hh, hs⟩ => ?_
      refine ⟨ρ, S, env, he, hh, Sat.bindK hs fun ρ1 S1 x vx H1 e1 hh1 rx hs1 => ⟨ρ1, S1, env, he.ext e1, hh1, Sat.bindK hs1 fun ρ2 S2 l l' H2 e2 hh2 el hs2 => ⟨ρ2, S2, env, (he.ext e1).ext e2, hh2, Sat.bindK hs2 fun ρ3 S3 u u' H3 e3 hh3 eu hs3 => ?_⟩⟩⟩
      obtain ⟨z, hz, hs4⟩ := hs3.ofK
      have el : l = l' := el
      have eu : u = u' := eu
      subst el; subst eu
      rw [F.K]
      exact sl_ok hh3 ((rx.ext e2).ext e3) hz hs4.out
    · cases h
  | .lc elt tg it cond own, W, c, X, px, F, h => by
    unfold chkE at h
    split at h
    · rename_i pe pt pi pifs scope pos
      simp only [Bool.and_eq_true] at h
      obtain ⟨⟨⟨⟨⟨⟨h1, h2⟩, h3⟩, h4⟩, h5⟩, h6⟩, h7⟩ := h
      have bk : BlkOk X.N X.env.scope scope (ownP c own) := by rw [F.N, F.sc]; exact blkOk_by h1
      have hsl : ∀ i ∈ tg.slots, i ∈ own := fun i hi => of_decide_eq_true (List.all_eq_true.mp h3 i hi)
      have eo : (ownP c own).map (·.2) = own := by
        unfold ownP
        rw [List.map_map]
        exact List.map_id' _
      refine pe_imp (pe_lc F.calm (by rw [F.N]; exact F.nd) (snd_I it _ _ F h4) bk
        (fun s H C cl fp => snd_G (F.blk s H C cl fp) tg pt h5) (fun s H C cl fp => snd_C cond pifs (F.blk s H C cl fp) h6) (fun s H C cl fp => snd_E elt pe (F.blk s H C cl fp) h7) (set_of h2)) fun σ H Q ⟨ρ, S, env, he, hh, hs⟩ => ?_
      rw [eo]
      exact lc_read he hh hs hsl
    · cases h
theorem snd_T : ∀ (e : E) {W : WX} {c : Cs} {X : Cx} (px : Expr), Fit G T W P k c X → chkE G c e px = true → PT X px (rd T W kB (evalT P e))
  | .not a, W, c, X, px, F, h => by
    unfold chkE at h
    split at h
    · refine pt_imp (pt_not (snd_T a _ F h)) fun σ H Q ⟨ρ, S, env, he, hh, hs⟩ => ?_
      refine ⟨ρ, S, env, he, hh, Sat.bindK hs fun ρ1 S1 x vx H1 e1 hh1 rx hs1 => ?_⟩
      have rx : x = vx := rx
      subst rx
      exact Sat.done hs1 hh1 rfl
    · cases h
  | .and a b, W, c, X, px, F, h => (snd_W (.and a b) px F rfl h).pt
  | .and1 a, W, c, X, px, F, h => (snd_W (.and1 a) px F rfl h).pt
  | .or a b, W, c, X, px, F, h => (snd_W (.or a b) px F rfl h).pt
  | .or1 a, W, c, X, px, F, h => (snd_W (.or1 a) px F rfl h).pt
  | .cmp op a b, W, c, X, px, F, h => by
    unfold chkE at h
    split at h
    · simp only [Bool.and_eq_true, decide_eq_true_eq] at h
      obtain ⟨⟨⟨h1, h0⟩, h2⟩, h3⟩ := h
      subst h1
      refine pt_imp (pt_cmpR (cmp_op F.hu op) (snd_E a _ F h2) (snd_E b _ F h3) (mark_of h0)) fun σ H Q ⟨ρ, S, env, he, hh, hs⟩ => ?_
      refine ⟨ρ, S, env, he, hh, Sat.bindK hs fun ρ1 S1 x vx H1 e1 hh1 rx hs1 => ⟨ρ1, S1, env, he.ext e1, hh1, Sat.bindK hs1 fun ρ2 S2 y vy H2 e2 hh2 ry hs2 => ?_⟩⟩
      obtain ⟨b, hb, hs3⟩ := hs2.ofK
      rw [F.K]
      exact cmp_ok op hh2 (rx.ext e2) ry hb ⟨b, rfl, Sat.done hs3 hh2 rfl⟩
    · cases h
  | .var i, W, c, X, px, F, h => truth_of F (snd_E (.var i) px F h) (by
      unfold chkE at h
      split at h
      · intro _; rfl
      · cases h) fun env S => by
        simp only [evalT, evalE]
        split <;> rfl
  | .call f es, W, c, X, px, F, h => truth_of F (snd_E (.call f es) px F h) (by
      unfold chkE at h
      split at h
      · intro _; rfl
      · cases h) fun env S => by
        simp only [evalT, evalE]
        cases evalA P es env S <;> rfl
  | .bcall b es, W, c, X, px, F, h => truth_of F (snd_E (.bcall b es) px F h) (by
      unfold chkE at h
      split at h
      · intro _; rfl
      · cases h) fun env S => by
        simp only [evalT, evalE]
        cases evalR P es env S <;> rfl
  | .isi ty a, W, c, X, px, F, h => truth_of F (snd_E (.isi ty a) px F h) (by
      unfold chkE at h
      split at h
      · intro _; rfl
      · cases h) fun env S => by
        simp only [evalT, evalE]
        cases evalE P a env S with
        | ok x S1 => simp only [Res.bind]; cases isType ty x S1 <;> rfl
        | exc y S1 => rfl
        | stuck => rfl
  | .ix a b, W, c, X, px, F, h => truth_of F (snd_E (.ix a b) px F h) (by
      unfold chkE at h
      split at h
      · intro _; rfl
      · cases h) fun env S => by
        simp only [evalT, evalE]
        cases evalE P a env S with
        | ok x S1 => simp only [Res.bind]; cases evalE P b env S1 <;> rfl
        | exc y S1 => rfl
        | stuck => rfl
  | .bool b, W, c, X, px, F, h => truth_of F (snd_E (.bool b) px F h) (by
      unfold chkE at h
      split at h
      · intro _; rfl
      · cases h) fun env S => by
        simp only [evalT, evalE]
        rfl
  | .non, W, c, X, px, F, h => pt_stuck
  | .int _, W, c, X, px, F, h => pt_stuck
  | .str _, W, c, X, px, F, h => pt_stuck
  | .glob _, W, c, X, px, F, h => pt_stuck
  | .bin _ _ _, W, c, X, px, F, h => pt_stuck
  | .neg _, W, c, X, px, F, h => pt_stuck
  | .ife _ _ _, W, c, X, px, F, h => pt_stuck
  | .tup _, W, c, X, px, F, h => pt_stuck
  | .lst _, W, c, X, px, F, h => pt_stuck
  | .meth _ _ _, W, c, X, px, F, h => pt_stuck
  | .repl _ _ _, W, c, X, px, F, h => pt_stuck
  | .slc _ _ _, W, c, X, px, F, h => pt_stuck
  | .lc _ _ _ _ _, W, c, X, px, F, h => pt_stuck
theorem snd_W : ∀ (e : E) {W : WX} {c : Cs} {X : Cx} (px : Expr), Fit G T W P k c X → isLog e = true → chkE G c e px = true → PW X px (rd T W kB (evalT P e))
  | .and a b, W, c, X, px, F, _, h => by
    unfold chkE at h
    split at h
    · rename_i pa pb r pos
      simp only [Bool.and_eq_true] at h
      have B : PW X (.BoolOp .And (pb :: r) pos) (rd T W kB (evalT P b)) := by
        cases hl : isLog b with
        | true => exact snd_W b _ F hl h.2
        | false =>
          have h2 := h.2
          cases b <;> first | (cases hl; done) | (simp [chkE] at h2; done)
      refine pw_imp (pw_and (snd_T a _ F h.1) B) fun σ H Q ⟨ρ, S, env, he, hh, hs⟩ => ?_
      refine ⟨ρ, S, env, he, hh, Sat.bindK hs fun ρ1 S1 x vx H1 e1 hh1 rx hs1 => ?_⟩
      have rx : x = vx := rx
      subst rx
      cases x with
      | true => rw [if_pos rfl]; exact ⟨ρ1, S1, env, he.ext e1, hh1, hs1⟩
      | false => rw [if_neg Bool.false_ne_true]; exact Sat.done (b := false) hs1 hh1 rfl
    · cases h
  | .and1 a, W, c, X, px, F, _, h => by
    unfold chkE at h
    split at h
    · exact pw_and1 (snd_T a _ F h)
    · cases h
  | .or a b, W, c, X, px, F, _, h => by
    unfold chkE at h
    split at h
    · rename_i pa pb r pos
      simp only [Bool.and_eq_true] at h
      have B : PW X (.BoolOp .Or (pb :: r) pos) (rd T W kB (evalT P b)) := by
        cases hl : isLog b with
        | true => exact snd_W b _ F hl h.2
        | false =>
          have h2 := h.2
          cases b <;> first | (cases hl; done) | (simp [chkE] at h2; done)
      refine pw_imp (pw_or (snd_T a _ F h.1) B) fun σ H Q ⟨ρ, S, env, he, hh, hs⟩ => ?_
      refine ⟨ρ, S, env, he, hh, Sat.bindK hs fun ρ1 S1 x vx H1 e1 hh1 rx hs1 => ?_⟩
      have rx : x = vx := rx
      subst rx
      cases x with
      | true => rw [if_pos rfl]; exact Sat.done (b := true) hs1 hh1 rfl
      | false => rw [if_neg Bool.false_ne_true]; exact ⟨ρ1, S1, env, he.ext e1, hh1, hs1⟩
    · cases h
  | .or1 a, W, c, X, px, F, _, h => by
    unfold chkE at h
    split at h
    · exact pw_or1 (snd_T a _ F h)
    · cases h
  | .not _, W, c, X, px, F, hl, h => nomatch hl
  | .cmp _ _ _, W, c, X, px, F, hl, h => nomatch hl
  | .var _, W, c, X, px, F, hl, h => nomatch hl
  | .call _ _, W, c, X, px, F, hl, h => nomatch hl
  | .bcall _ _, W, c, X, px, F, hl, h => nomatch hl
  | .isi _ _, W, c, X, px, F, hl, h => nomatch hl
  | .ix _ _, W, c, X, px, F, hl, h => nomatch hl
  | .bool _, W, c, X, px, F, hl, h => nomatch hl
  | .non, W, c, X, px, F, hl, h => nomatch hl
  | .int _, W, c, X, px, F, hl, h => nomatch hl
  | .str _, W, c, X, px, F, hl, h => nomatch hl
  | .glob _, W, c, X, px, F, hl, h => nomatch hl
  | .bin _ _ _, W, c, X, px, F, hl, h => nomatch hl
  | .neg _, W, c, X, px, F, hl, h => nomatch hl
  | .ife _ _ _, W, c, X, px, F, hl, h => nomatch hl
  | .tup _, W, c, X, px, F, hl, h => nomatch hl
  | .lst _, W, c, X, px, F, hl, h => nomatch hl
  | .meth _ _ _, W, c, X, px, F, hl, h => nomatch hl
  | .repl _ _ _, W, c, X, px, F, hl, h => nomatch hl
  | .slc _ _ _, W, c, X, px, F, hl, h => nomatch hl
  | .lc _ _ _ _ _, W, c, X, px, F, hl, h => nomatch hl
theorem snd_O : ∀ (p : Pt) {W : WX} {c : Cs} {X : Cx} (px : Option Expr), Fit G T W P k c X → chkO G c p px = true → PO X px (rd T W kO (evalO P p))
  | .no, W, c, X, px, F, h => by
    unfold chkO at h
    split at h
    · exact po_imp po_none fun σ H Q ⟨ρ, S, env, he, hh, hs⟩ => Sat.done (b := none) hs hh rfl
    · cases h
  | .e x, W, c, X, px, F, h => by
    unfold chkO at h
    split at h
    · refine po_imp (po_some (snd_E x _ F h)) fun σ H Q ⟨ρ, S, env, he, hh, hs⟩ => ?_
      refine ⟨ρ, S, env, he, hh, Sat.bindK hs fun ρ1 S1 x vx H1 e1 hh1 rx hs1 => ?_⟩
      split at hs1
      · rename_i i
        cases rx
        exact ⟨i, rfl, Sat.done hs1 hh1 rfl⟩
      · exact hs1.elim
    · cases h
theorem snd_C : ∀ (p : Pt) {W : WX} {c : Cs} {X : Cx} (px : List Expr), Fit G T W P k c X → chkC G c p px = true → PTs X px (rd T W kB (evalC P p))
  | .no, W, c, X, px, F, h => by
    unfold chkC at h
    split at h
    · exact pts_imp pts_nil fun σ H Q ⟨ρ, S, env, he, hh, hs⟩ => Sat.done (b := true) hs hh rfl
    · cases h
  | .e x, W, c, X, px, F, h => by
    unfold chkC at h
    split at h
    · exact pts_imp (pts_one (snd_T x _ F h)) fun σ H Q q => q
    · cases h
theorem snd_I : ∀ (it : It) {W : WX} {c : Cs} {X : Cx} (tg px : Expr), Fit G T W P k c X → chkI G c it px = true → PI X tg px (rd T W kI (evalI P it))
  | .e x, W, c, X, tg, px, F, h => by
    unfold chkI at h
    exact snd_Ie F (snd_E x px F h)
  | .rng1 a, W, c, X, tg, px, F, h => by
    unfold chkI at h
    split at h
    · simp only [Bool.and_eq_true, decide_eq_true_eq] at h
      obtain ⟨⟨⟨h1, h2⟩, h3⟩, h4⟩ := h
      subst h1
      exact snd_I1 F h3 h2 (snd_E a _ F h4)
    · cases h
  | .rng2 a b, W, c, X, tg, px, F, h => by
    unfold chkI at h
    split at h
    · simp only [Bool.and_eq_true, decide_eq_true_eq] at h
      obtain ⟨⟨⟨⟨⟨h1, h2⟩, h3⟩, h4⟩, h5⟩, h6⟩ := h
      subst h1
      exact snd_I2 F h3 h4 h2 (snd_E a _ F h5) (snd_E b _ F h6)
    · cases h
theorem snd_A : ∀ (es : Es) {W : WX} {c : Cs} {X : Cx} (pes : List Expr), Fit G T W P k c X → chkEs G c es pes = true → PA X pes (rd T W kA (evalA P es))
  | .nil, W, c, X, pes, F, h => by
    unfold chkEs at h
    split at h
    · exact pa_imp pa_nil fun σ H Q ⟨ρ, S, env, he, hh, hs⟩ => Sat.done (b := []) hs hh .nil
    · cases h
  | .cons e es, W, c, X, pes, F, h => by
    unfold chkEs at h
    split at h
    · simp only [Bool.and_eq_true] at h
      refine pa_imp (pa_cons (snd_E e _ F h.1.2) (snd_A es _ F h.2) (star_cons h.1.1)) fun σ H Q ⟨ρ, S, env, he, hh, hs⟩ => ?_
      refine ⟨ρ, S, env, he, hh, Sat.bindU hs fun ρ1 S1 x vx H1 e1 hh1 rx hs1 => ?_⟩
      obtain ⟨ρ1', e1', hh1', rx', sub⟩ := settle_rep e1 hh1 rx
      refine ⟨ρ1', (settle x S1).2, env, ?_, hh1', Sat.bindK (hs1.shift e1') fun ρ2 S2 xs vs H2 e2 hh2 rxs hs2 => ?_⟩
      · exact he.ext e1'
      · exact Sat.done hs2 hh2 (.cons (rx'.ext e2) rxs)
    · cases h
theorem snd_R : ∀ (es : Es) {W : WX} {c : Cs} {X : Cx} (pes : List Expr), Fit G T W P k c X → chkEs G c es pes = true → PA X pes (rd T W kR (evalR P es))
  | .nil, W, c, X, pes, F, h => by
    unfold chkEs at h
    split at h
    · exact pa_imp pa_nil fun σ H Q ⟨ρ, S, env, he, hh, hs⟩ => Sat.done (b := []) hs hh .nil
    · cases h
  | .cons e es, W, c, X, pes, F, h => by
    unfold chkEs at h
    split at h
    · simp only [Bool.and_eq_true] at h
      refine pa_imp (pa_cons (snd_E e _ F h.1.2) (snd_R es _ F h.2) (star_cons h.1.1)) fun σ H Q ⟨ρ, S, env, he, hh, hs⟩ => ?_
      refine ⟨ρ, S, env, he, hh, Sat.bindU hs fun ρ1 S1 x vx H1 e1 hh1 rx hs1 => ?_⟩
      refine ⟨ρ1, S1, env, he.ext e1, hh1, ?_⟩
      cases hm : evalR P es env S1 with
      | stuck => rw [hm] at hs1; exact hs1.elim
      | exc y S2 => rw [hm] at hs1; exact hs1.shift e1
      | ok rs S2 => rw [hm] at hs1; exact fun ρ2 H2 vs e2 hh2 rxs => hs1 ρ2 H2 (vx :: vs) (e1.trans e2) hh2 (.cons (rx.ext e2) (RepRs.shift e1.dom rxs))
    · cases h
end
end
end Deep

set_option Elab.async false
set_option linter.all false
set_option maxRecDepth 100000
set_option maxHeartbeats 8000000
/-! The deep layer, 9: statements. -/
namespace Deep
open PySem PySem.Spec PyProof.Rows L2

def tupB : Expr → Bool
  | .Tuple .. => true
  | .List .. => true
  | _ => false
/-- y = [..] is stored by the comprehension itself -/
def swB (c : Cs) (y : Str) (py pos : Pos) (scope : Scope) : Bool := decide (c.sc.names.lookup y = some .local) && (py.line == pos.line) && !(scope.names.any fun (n, k) => n == y && (k == .local || k == .cell))
def fnB (c : Cs) : Bool := match c.sc.kind with
  | .function => true
  | _ => false
def lcB : Expr → Bool
  | .ListComp _ [⟨_, _, _, 0⟩] _ _ => true
  | _ => false
mutual
def chkS (G : GT) (c : Cs) : St → Stmt → Bool
  | .asg t e, ps => match ps with
    | .Assign [pt] pe _ => plainB pt && chkTg c t pt && chkE G c e pe && fnB c && (match pt with
      | .Name _ _ => noComp pe || lcB pe
      | _ => noComp pe && !tupB pe)
    | _ => false
  | .sub o i e, ps => match ps with
    | .Assign [.Subscript po pi _] pe _ => noSlice pi && noComp pe && chkE G c o po && chkE G c i pi && chkE G c e pe
    | _ => false
  | .aug i op e, ps => match ps with
    | .AugAssign (.Name x _) po pe _ => decide (po = op.py) && decide (c.N[i]? = some x) && bndB c x && chkE G c e pe
    | _ => false
  | .expr e, ps => match ps with
    | .Expr pe _ => noComp pe && chkE G c e pe
    | _ => false
  | .ret e, ps => match ps with
    | .Return (some pe) _ => chkE G c e pe
    | _ => false
  | .retN, ps => match ps with
    | .Return none _ => true
    | _ => false
  | .pass, ps => match ps with
    | .Pass _ => true
    | _ => false
  | .brk, ps => match ps with
    | .Break _ => true
    | _ => false
  | .cont, ps => match ps with
    | .Continue _ => true
    | _ => false
  | .never, _ => true
  | .par _ _ _ _, _ => false
  | .ifS t a b, ps => match ps with
    | .If pt pa pb _ => chkE G c t pt && chkB G c a pa && chkB G c b pb
    | _ => false
  | .whileS t b, ps => match ps with
    | .While pt pb [] _ => chkE G c t pt && chkB G c b pb
    | _ => false
  | .forS t it b, ps => match ps with
    | .For pt pi pb [] _ => noSet pi && chkTg c t pt && chkI G c it pi && chkB G c b pb
    | _ => false
def chkB (G : GT) (c : Cs) : Bk → List Stmt → Bool
  | .nil, ps => match ps with
    | [] => true
    | _ => false
  | .cons s b, ps => match ps with
    | p :: r => chkS G c s p && chkB G c b r
    | _ => false
end

section
variable {G : GT} {T : Tb} {P : Par} {k : Nat}
theorem ps_imp {X : Cx} {st : Stmt} {t t' : TS} (h : PS X st t) (i : ∀ D σ H, t' D σ H → t D σ H) : PS X st t' := ⟨fun pins s σ H D I q => h.run pins s σ H D I (i D σ H q)⟩
theorem pss_imp {X : Cx} {st : List Stmt} {t t' : TS} (h : PSs X st t) (i : ∀ D σ H, t' D σ H → t D σ H) : PSs X st t' := ⟨fun pins s σ H D I q => h.run pins s σ H D I (i D σ H q)⟩
theorem sw_no {env : Env} {e : Expr} {t : Option Expr} {l : Nat} (h : noComp e = true) : swapsWith e t l env = pure false := by
  cases e <;> first | rfl | (simp [noComp] at h; done)
theorem sws_no {env : Env} {e t : Expr} {l : Nat} (h : noComp e = true) : swapsWithSole [t] e l env = pure false := sw_no h
theorem ss_no {env : Env} {e t : Expr} (h : tupB e = false) : swappedStores [t] e env = pure none := by
  cases t <;> cases e <;> first | rfl | (simp [tupB] at h; done)
theorem ss_name {env : Env} {e : Expr} {x : Str} {p : Pos} : swappedStores [.Name x p] e env = pure none := by cases e <;> rfl
theorem ss_sub {env : Env} {e o i : Expr} {p : Pos} : swappedStores [.Subscript o i p] e env = pure none := by cases e <;> rfl
theorem sw_val {elt : Expr} {gs : List Comprehension} {scope : Scope} {pos py : Pos} {y : Str} {l : Nat} {env : Env} (hk : env.scope.kind = .function) :
    swapsWith (.ListComp elt gs scope pos) (some (.Name y py)) l env = pure (decide (env.scope.names.lookup y = some .local) && (py.line == pos.line) && !(scope.names.any fun (n, k) => n == y && (k == .local || k == .cell))) := by
  have hb : env.blockKind = .function := by unfold Env.blockKind; rw [hk]; rfl
  have hd : (env.kindOf y == some NameKind.local) = decide (env.scope.names.lookup y = some .local) := by
    show (env.scope.names.lookup y == some NameKind.local) = _
    cases env.scope.names.lookup y with
    | none => rfl
    | some kd => cases kd <;> rfl
  unfold swapsWith
  simp only [hb, Expr.pos]
  show pure ((ScopeKind.function == ScopeKind.function) && (env.kindOf y == some NameKind.local) && (py.line == pos.line) && !(scope.names.any fun (n, k) => n == y && (k == .local || k == .cell))) = _
  rw [hd]
  rfl
theorem fnB_ok {W : WX} {c : Cs} {X : Cx} (F : Fit G T W P k c X) (h : fnB c = true) : X.env.scope.kind = .function := by
  unfold fnB at h
  rw [F.sc]
  split at h
  · assumption
  · cases h
/-- a value and a target -/
theorem asg_read {W : WX} {t : Tg} {e : E} {D : Ends} {σ : L2.St} {H : Hp} (q : rdS T W (evalS P (.asg t e)) D σ H) : tAsg (rd T W kV (evalE P e)) (rdG T t) D σ H := by
  obtain ⟨ρ, S, env, he, hh, hs⟩ := q
  simp only [evalS] at hs
  refine ⟨ρ, S, env, he, hh, ?_⟩
  cases hm : evalE P e env S with
  | stuck => rw [hm] at hs; exact hs.elim
  | exc y S1 => rw [hm] at hs; exact fun ρ1 H1 c d e1 hh1 p => hs ρ1 H1 σ c d e1 hh1 (he.ext e1) p
  | ok r S1 =>
    rw [hm] at hs
    have hs : SatS T W ρ H D (.ofB (bindT t r env S1)) := hs
    intro ρ1 H1 v e1 hh1 rr
    cases hb : bindT t r env S1 with
    | none => rw [hb] at hs; exact hs.elim
    | some p =>
      obtain ⟨e2, S2⟩ := p
      rw [hb] at hs
      exact ⟨ρ, H, ρ1, S1, env, r, e1, he.ext e1, hh1, rr, e2, S2, hb, fun ρ' σ' f1 f2 f3 f4 _ => hs ρ' H1 σ' f1 f3 f4⟩
theorem SatS.imp {W : WX} {ρ : Rho} {H : Hp} {D D' : Ends} {r : SR} (h : SatS T W ρ H D r) (i1 : ∀ σ H, D.nx σ H → D'.nx σ H) (i2 : ∀ v H, D.rt v H → D'.rt v H) (i3 : ∀ σ H, D.bk σ H → D'.bk σ H) (i4 : ∀ σ H, D.ct σ H → D'.ct σ H) : SatS T W ρ H D' r := by
  cases r with
  | nx env S => exact fun ρ' H' s e hh p => i1 _ _ (h ρ' H' s e hh p)
  | rt r S => exact fun ρ' H' v e hh p => i2 _ _ (h ρ' H' v e hh p)
  | bk env S => exact fun ρ' H' s e hh p => i3 _ _ (h ρ' H' s e hh p)
  | ct env S => exact fun ρ' H' s e hh p => i4 _ _ (h ρ' H' s e hh p)
  | ex x env S => exact h
  | stuck => exact h
theorem while_read {W : WX} {t : E} {b : Bk} {D : Ends} {σ : L2.St} {H : Hp} (q : rdS T W (evalS P (.whileS t b)) D σ H) : tWhile (rd T W kB (evalT P t)) (rdS T W (evalB P b)) D σ H := by
  obtain ⟨ρ, S, env, he, hh, hs⟩ := q
  simp only [evalS] at hs
  refine ⟨fun m σ' H' => ∃ ρ2 S2 e2, Ext ρ ρ2 H H' ∧ EnvRep T ρ2 H' e2 σ' ∧ HRep T ρ2 S2 H' ∧ SatS T W ρ H D (whileN (evalT P t) (evalB P b) m e2 S2), ⟨P.fuel, ρ, S, env, Ext.refl, he, hh, hs⟩, ?_⟩
  rintro m σ1 H1 ⟨ρ1, S1, env1, e1, he1, hh1, hs1⟩
  cases m with
  | zero => exact hs1.elim
  | succ m =>
    simp only [whileN] at hs1
    refine ⟨ρ1, S1, env1, he1, hh1, ?_⟩
    cases hm : evalT P t env1 S1 with
    | stuck => rw [hm] at hs1; exact hs1.elim
    | exc y S2 => rw [hm] at hs1; exact fun ρ2 H2 c d f hh2 p => hs1 ρ2 H2 σ1 c d (e1.trans f) hh2 (he1.ext f) p
    | ok x S2 =>
      rw [hm] at hs1
      intro ρ2 H2 x' e2 hh2 ex
      have ex : x = x' := ex
      subst ex
      cases x with
      | false =>
        rw [if_neg Bool.false_ne_true]
        exact hs1 ρ2 H2 σ1 (e1.trans e2) hh2 (he1.ext e2)
      | true =>
        rw [if_pos rfl]
        simp only at hs1
        refine ⟨fun σ' H' => ∃ ρ3 S3 e3, Ext ρ ρ3 H H' ∧ EnvRep T ρ3 H' e3 σ' ∧ HRep T ρ3 S3 H' ∧ SatS T W ρ H D (whileN (evalT P t) (evalB P b) m e3 S3), fun σ' H' z => ⟨m, Nat.lt_succ_self m, z⟩, ρ2, S2, env1, he1.ext e2, hh2, ?_⟩
        have e12 := e1.trans e2
        cases hb : evalB P b env1 S2 with
        | nx e3 S3 => rw [hb] at hs1; exact fun ρ3 H3 σ3 f hh3 he3 => ⟨ρ3, S3, e3, e12.trans f, he3, hh3, hs1⟩
        | ct e3 S3 => rw [hb] at hs1; exact fun ρ3 H3 σ3 f hh3 he3 => ⟨ρ3, S3, e3, e12.trans f, he3, hh3, hs1⟩
        | bk e3 S3 => rw [hb] at hs1; exact fun ρ3 H3 σ3 f hh3 he3 => hs1 ρ3 H3 σ3 (e12.trans f) hh3 he3
        | rt r S3 => rw [hb] at hs1; exact fun ρ3 H3 v f hh3 rr => hs1 ρ3 H3 v (e12.trans f) hh3 (rr.shift e12.dom)
        | ex y e3 S3 => rw [hb] at hs1; exact fun ρ3 H3 σ3 c d f hh3 he3 p => hs1 ρ3 H3 σ3 c d (e12.trans f) hh3 he3 p
        | stuck => rw [hb] at hs1; exact hs1.elim
theorem for_read {W : WX} {tg : Tg} {it : It} {b : Bk} {D : Ends} {σ : L2.St} {H : Hp} (q : rdS T W (evalS P (.forS tg it b)) D σ H) : tFor (rd T W kI (evalI P it)) (rdG T tg) (rdS T W (evalB P b)) D σ H := by
  obtain ⟨ρ, S, env, he, hh, hs⟩ := q
  simp only [evalS] at hs
  refine ⟨ρ, S, env, he, hh, ?_⟩
  cases hm : evalI P it env S with
  | stuck => rw [hm] at hs; exact hs.elim
  | exc y S1 => rw [hm] at hs; exact fun ρ1 H1 c d e1 hh1 p => hs ρ1 H1 σ c d e1 hh1 (he.ext e1) p
  | ok p S1 =>
    obtain ⟨xs, g⟩ := p
    rw [hm] at hs
    intro ρ1 H1 J e1 hh1 src
    have src : Src T ρ1 H1 J xs g := src
    have hs : SatS T W ρ H D (forLoop g (fun x e S2 => bindT tg (.v x) e S2) (evalB P b) xs env S1) := hs
    have hs := hs.shift e1
    refine ⟨fun i m σ' H2 => ∃ ρ2 S2 e2 rest, rest = xs.drop i ∧ i + rest.length = xs.length ∧ m = rest.length ∧ Ext ρ1 ρ2 H1 H2 ∧ EnvRep T ρ2 H2 e2 σ' ∧ HRep T ρ2 S2 H2 ∧
      SatS T W ρ1 H1 D (forLoop g (fun x e S2 => bindT tg (.v x) e S2) (evalB P b) rest e2 S2), ⟨xs.length, ρ1, S1, env, xs, by simp, by simp, rfl, Ext.refl, he.ext e1, hh1, hs⟩, ?_⟩
    rintro i m σ2 H2 ⟨ρ2, S2, env2, rest, hr, hlen, rfl, e2, he2, hh2, hs2⟩
    have gok : g.ok S2 = true := by
      cases hg : g.ok S2 with
      | true => rfl
      | false => cases rest <;> (simp only [forLoop, hg, Bool.false_eq_true, if_false] at hs2; exact hs2.elim)
    have sr := src ρ2 S2 H2 i e2 hh2 gok
    cases rest with
    | nil =>
      refine .inl ⟨sr.2 (by simpa using hlen), ?_⟩
      simp only [forLoop, gok, if_true] at hs2
      exact hs2 ρ2 H2 σ2 e2 hh2 he2
    | cons x rest =>
      have hx : xs[i]? = some x := by
        have h0 : (xs.drop i)[0]? = some x := by rw [← hr]; rfl
        rw [List.getElem?_drop] at h0
        simpa using h0
      have hr' : rest = xs.drop (i + 1) := by
        have h0 : (xs.drop i).drop 1 = rest := by rw [← hr]; rfl
        rw [List.drop_drop] at h0
        exact h0.symm
      have hlen' : (i + 1) + rest.length = xs.length := by rw [List.length_cons] at hlen; omega
      obtain ⟨go, yld⟩ := sr.1 x hx
      refine .inr ⟨go, fun σ' H' => ∃ ρ' S' e', Ext ρ1 ρ' H1 H' ∧ EnvRep T ρ' H' e' σ' ∧ HRep T ρ' S' H' ∧ SatS T W ρ1 H1 D (forLoop g (fun x e S2 => bindT tg (.v x) e S2) (evalB P b) rest e' S'),
        fun σ' H' ⟨ρ', S', e', z1, z2⟩ => ⟨rest.length, Nat.lt_succ_self _, ρ', S', e', rest, hr', hlen', rfl, z1, z2⟩, fun v H3 hy => ?_⟩
      obtain ⟨e3, hh3, rx⟩ := yld v H3 hy
      simp only [forLoop, gok, if_true] at hs2
      cases hb : bindT tg (.v x) env2 S2 with
      | none => simp only [hb] at hs2; exact hs2.elim
      | some p =>
        obtain ⟨e4, S4⟩ := p
        simp only [hb] at hs2
        refine ⟨ρ2, H3, ρ2, S2, env2, .v x, Ext.refl, he2.ext e3, hh3, rx, e4, S4, hb, fun ρ4 σ4 f1 f2 f3 f4 _ => ?_⟩
        have e14 : Ext ρ1 ρ4 H1 H3 := e2.trans (e3.trans f1)
        refine ⟨ρ4, S4, e4, f4, f3, ?_⟩
        cases hE : evalB P b e4 S4 with
        | nx e5 S5 => rw [hE] at hs2; exact fun ρ5 H5 σ5 f hh5 he5 => ⟨ρ5, S5, e5, e14.trans f, he5, hh5, hs2⟩
        | ct e5 S5 => rw [hE] at hs2; exact fun ρ5 H5 σ5 f hh5 he5 => ⟨ρ5, S5, e5, e14.trans f, he5, hh5, hs2⟩
        | bk e5 S5 => rw [hE] at hs2; exact fun ρ5 H5 σ5 f hh5 he5 => hs2 ρ5 H5 σ5 (e14.trans f) hh5 he5
        | rt r S5 => rw [hE] at hs2; exact fun ρ5 H5 v f hh5 rr => hs2 ρ5 H5 v (e14.trans f) hh5 (rr.shift e14.dom)
        | ex y e5 S5 => rw [hE] at hs2; exact fun ρ5 H5 σ5 c d f hh5 he5 p => hs2 ρ5 H5 σ5 c d (e14.trans f) hh5 he5 p
        | stuck => rw [hE] at hs2; exact hs2.elim
theorem sub_ok {ρ : Rho} {S S' : Store} {H H0 H1 : Hp} {o i : RV} {x : PV} {vo vi vx : V} (hh : HRep T ρ S H) (ro : RepR T ρ H0 H o vo) (ri : RepR T ρ H1 H i vi) (rx : Rep T ρ H x vx) (e : subRV o i x S = some S') {Q : Hp → Prop}
    (q : ∀ H', Ext ρ ρ H H' → HRep T ρ S' H' → Q H') : rSetL vo vi vx H Q := by
  unfold subRV at e
  split at e
  · rename_i n kk
    cases hn : S[n]? with
    | none => rw [hn] at e; cases e
    | some ob =>
      rw [hn] at e
      cases ob with
      | lst xs =>
        simp only at e
        split at e
        · rename_i j hj
          cases e
          obtain ⟨a, vs, rfl, h1, h2, h3⟩ := hh.lstAt hn ro
          cases ri
          obtain ⟨e1, e2⟩ := write_rep hh hn h1 (RepL.set rx j h3)
          exact ⟨a, vs, kk, j, rfl, rfl, h2, by rw [← h3.length]; exact hj, q _ e1 e2⟩
        · cases e
      | _ => cases e
  · cases e
def rAug : BOp → R2
  | .add => fun x y H Q => rI0 (fun i j => .int (i + j)) x y H Q ∨ ∃ i j, x = .str i ∧ y = .str j ∧ i.length + j.length ≤ sizeLine ∧ Q (.str (i ++ j)) H
  | .sub => rI0 fun i j => .int (i - j)
  | .mul => rI CMul fun i j => .int (i * j)
  | _ => fun _ _ _ _ => False
theorem aug_op {X : Cx} (op : BOp) : OpR X (inplaceOp op.py) (rAug op) := by
  cases op with
  | add => exact iop_add.or iop_add_str
  | sub => exact iop_sub
  | mul => exact iop_mul
  | fdiv => exact fun _ _ _ _ _ _ _ _ _ _ _ _ h => h.elim
  | mod => exact fun _ _ _ _ _ _ _ _ _ _ _ _ h => h.elim
  | pow => exact fun _ _ _ _ _ _ _ _ _ _ _ _ h => h.elim
theorem aug_ok (op : BOp) {ρ : Rho} {S : Store} {H H0 : Hp} {x : PV} {y z : RV} {vx vy : V} {Q : VK} (hh : HRep T ρ S H) (rx : Rep T ρ H x vx) (ry : RepR T ρ H0 H y vy) (a : augOk op (.v x) y = true) (e : binRV op (.v x) y S = some z) (o : Out T ρ S H z Q) : rAug op vx vy H Q := by
  unfold augOk at a
  split at a
  · rename_i i j hx
    cases hx
    cases rx; cases ry
    cases e
    exact .inl ⟨_, _, rfl, rfl, o.val hh (.int _)⟩
  · rename_i i j hx
    cases hx
    cases rx; cases ry
    cases e
    exact ⟨_, _, rfl, rfl, o.val hh (.int _)⟩
  · rename_i i j hx
    cases hx
    cases rx; cases ry
    simp only [binRV] at e
    split at e
    · rename_i hc
      cases e
      refine ⟨_, _, rfl, rfl, ?_, o.val hh (.int _)⟩
      exact mulOk_c hc
    · cases e
  · rename_i i j hx
    cases hx
    cases rx; cases ry
    simp only [binRV] at e
    split at e
    · rename_i hl
      cases e
      exact .inr ⟨_, _, rfl, rfl, hl, o.val hh (.str _)⟩
    · cases e
  · cases a

mutual
theorem snd_S : ∀ (s : St) {W : WX} {c : Cs} {X : Cx} (ps : Stmt), Fit G T W P k c X → PassesOwn (model X.prog X.w) X.A X.env X.xe → chkS G c s ps = true → PS X ps (rdS T W (evalS P s))
  | .asg t e, W, c, X, ps, F, po, h => by
    unfold chkS at h
    split at h
    · rename_i pt pe pos
      simp only [Bool.and_eq_true] at h
      obtain ⟨⟨⟨⟨h1, h2⟩, h3⟩, h4⟩, h5⟩ := h
      have hd1 := (assign_plain (env := X.env) (es := [pt]) (by rw [List.all_cons, h1]; rfl)).2.2
      split at h5
      · rename_i x p
        rw [Bool.or_eq_true] at h5
        have plainWay : swapsWith pe (some (.Name x p)) pos.line X.env = pure false → PS X (.Assign [.Name x p] pe pos) (rdS T W (evalS P (.asg t e))) := fun hs =>
          ps_imp (ps_asg (snd_E e pe F h3) (snd_G F t _ h2) hs ss_name hd1) fun D σ H q => asg_read q
        rcases h5 with h5 | h5
        · exact plainWay (sw_no h5)
        · unfold lcB at h5
          split at h5
          · rename_i pelt ptg pit pifs scope lpos
            have hk := fnB_ok F h4
            have hv := sw_val (elt := pelt) (gs := [⟨ptg, pit, pifs, 0⟩]) (scope := scope) (pos := lpos) (py := p) (y := x) (l := pos.line) (env := X.env) hk
            cases hb : (decide (X.env.scope.names.lookup x = some .local) && (p.line == lpos.line) && !(scope.names.any fun (n, k) => n == x && (k == .local || k == .cell))) with
            | false => rw [hb] at hv; exact plainWay hv
            | true =>
              rw [hb] at hv
              simp only [Bool.and_eq_true, decide_eq_true_eq] at hb
              cases t with
              | tup _ => simp [chkTg] at h2
              | name i =>
                simp only [chkTg, Bool.and_eq_true, decide_eq_true_eq] at h2
                cases e with
                | lc elt tg it cond own =>
                  simp only [chkE, Bool.and_eq_true] at h3
                  obtain ⟨⟨⟨⟨⟨⟨a1, a2⟩, a3⟩, a4⟩, a5⟩, a6⟩, a7⟩ := h3
                  have bk : BlkOk X.N X.env.scope scope (ownP c own) := by rw [F.N, F.sc]; exact blkOk_by a1
                  have hsl : ∀ i ∈ tg.slots, i ∈ own := fun i hi => of_decide_eq_true (List.all_eq_true.mp a3 i hi)
                  have eo : (ownP c own).map (·.2) = own := by
                    unfold ownP
                    rw [List.map_map]
                    exact List.map_id' _
                  refine ps_imp (ps_setLc (i := i) F.calm (by rw [F.N]; exact F.nd) (by rw [F.N]; exact h2.1) hb.1.1 hv (snd_I it _ _ F a4) bk
                    (fun s H C cl fp => snd_G (F.blk s H C cl fp) tg ptg a5) (fun s H C cl fp => snd_C cond pifs (F.blk s H C cl fp) a6) (fun s H C cl fp => snd_E elt pelt (F.blk s H C cl fp) a7) (set_of a2)) fun D σ H q => ?_
                  rw [eo]
                  obtain ⟨ρ, S, env, he, hh, hs⟩ := q
                  refine lc_read (W := W) he hh ?_ hsl
                  simp only [evalS] at hs
                  cases hm : evalE P (.lc elt tg it cond own) env S with
                  | stuck => rw [hm] at hs; exact hs.elim
                  | exc y S1 => rw [hm] at hs; exact fun ρ1 H1 c d e1 hh1 p => hs ρ1 H1 σ c d e1 hh1 (he.ext e1) p
                  | ok r S1 =>
                    rw [hm] at hs
                    have hs : SatS T W ρ H D (.nx (env.set i (some (settle r S1).1)) (settle r S1).2) := hs
                    intro ρ1 H1 v e1 hh1 rr
                    obtain ⟨ρ2, e2, hh2, rr2, sub⟩ := settle_rep e1 hh1 rr
                    exact hs ρ2 H1 _ e2 hh2 ((he.ext e2).set i rr2)
                | _ => simp [chkE] at h3
          · cases h5
      · simp only [Bool.and_eq_true, Bool.not_eq_true'] at h5
        exact ps_imp (ps_asg (snd_E e pe F h3) (snd_G F t pt h2) (sws_no h5.1) (ss_no h5.2) hd1) fun D σ H q => asg_read q
    · cases h
  | .sub o i e, W, c, X, ps, F, po, h => by
    unfold chkS at h
    split at h
    · rename_i po' pi p pe pos
      simp only [Bool.and_eq_true] at h
      obtain ⟨⟨⟨⟨h1, h2⟩, h3⟩, h4⟩, h5⟩ := h
      refine ps_imp (ps_asg (snd_E e pe F h5) (pg_sub (snd_E o _ F h3) (snd_E i _ F h4) set_list (by intro v; cases pi <;> first | rfl | (simp [noSlice] at h1; done))) (sws_no h2) ss_sub) fun D σ H q => ?_
      obtain ⟨ρ, S, env, he, hh, hs⟩ := q
      simp only [evalS] at hs
      refine ⟨ρ, S, env, he, hh, ?_⟩
      cases hm : evalE P e env S with
      | stuck => rw [hm] at hs; exact hs.elim
      | exc y S1 => rw [hm] at hs; exact fun ρ1 H1 c d e1 hh1 p => hs ρ1 H1 σ c d e1 hh1 (he.ext e1) p
      | ok r S1 =>
        rw [hm] at hs
        intro ρ1 H1 v e1 hh1 rr
        obtain ⟨ρ1', e1', hh1', rr', sub⟩ := settle_rep e1 hh1 rr
        have he1 := he.ext e1'
        have hs := SatS.shift e1' hs
        refine ⟨ρ1', (settle r S1).2, env, he1, hh1', SatS.stK he1 hs fun ρ2 S2 ro vo H2 e2 hh2 rro hs2 => ?_⟩
        refine ⟨ρ2, S2, env, he1.ext e2, hh2, SatS.stK (he1.ext e2) hs2 fun ρ3 S3 ri vi H3 e3 hh3 rri hs3 => ?_⟩
        split at hs3
        · rename_i S4 h4
          refine sub_ok hh3 (RepR.ext e3 rro) rri ((rr'.ext e2).ext e3) h4 fun H' e4 hh4 => ?_
          exact hs3 ρ3 H' σ e4 hh4 (((he1.ext e2).ext e3).ext e4)
        · exact hs3.elim
    · cases h
  | .aug i op e, W, c, X, ps, F, po, h => by
    unfold chkS at h
    split at h
    · simp only [Bool.and_eq_true, decide_eq_true_eq] at h
      obtain ⟨⟨⟨h1, h2⟩, h3⟩, h4⟩ := h
      subst h1
      obtain ⟨b1, b2⟩ := F.bnd _ h3
      refine ps_imp (ps_aug (i := i) (ti := rAug op) (by rw [F.N]; exact F.nd) (by rw [F.N]; exact h2) b1 (snd_E e _ F h4) (fun pins s σ H x y v u Q I rx ry q => augR (aug_op op) I rx ry q) b2) fun D σ H q => ?_
      obtain ⟨ρ, S, env, he, hh, hs⟩ := q
      simp only [evalS] at hs
      split at hs
      · rename_i x hx
        obtain ⟨vx, e1, rx⟩ := he.get i x hx
        refine ⟨vx, e1, ρ, S, env, he, hh, SatS.stK he hs fun ρ1 S1 y vy H1 f1 hh1 ry hs1 => ?_⟩
        split at hs1
        · rename_i ha
          split at hs1
          · rename_i z hz
            refine aug_ok op hh1 (rx.ext f1) ry ha hz fun ρ2 H2 v f2 hh2 rz => ?_
            exact hs1 ρ2 H2 _ f2 hh2 (((he.ext f1).ext f2).set i rz)
          · exact hs1.elim
        · exact hs1.elim
      · exact hs.elim
    · cases h
  | .expr e, W, c, X, ps, F, po, h => by
    unfold chkS at h
    split at h
    · simp only [Bool.and_eq_true] at h
      refine ps_imp (ps_expr (snd_E e _ F h.2) (sw_no h.1)) fun D σ H q => ?_
      obtain ⟨ρ, S, env, he, hh, hs⟩ := q
      exact ⟨ρ, S, env, he, hh, SatS.stK he hs fun ρ1 S1 y vy H1 f1 hh1 ry hs1 => hs1 ρ1 H1 σ Ext.refl hh1 (he.ext f1)⟩
    · cases h
  | .ret e, W, c, X, ps, F, po, h => by
    unfold chkS at h
    split at h
    · refine ps_imp (ps_ret (snd_E e _ F h)) fun D σ H q => ?_
      obtain ⟨ρ, S, env, he, hh, hs⟩ := q
      simp only [evalS] at hs
      refine ⟨ρ, S, env, he, hh, ?_⟩
      cases hm : evalE P e env S with
      | stuck => rw [hm] at hs; exact hs.elim
      | exc y S1 => rw [hm] at hs; exact fun ρ1 H1 c d e1 hh1 p => hs ρ1 H1 σ c d e1 hh1 (he.ext e1) p
      | ok r S1 => rw [hm] at hs; exact hs
    · cases h
  | .retN, W, c, X, ps, F, po, h => by
    unfold chkS at h
    split at h
    · exact ps_imp ps_retN fun D σ H ⟨ρ, S, env, he, hh, hs⟩ => hs ρ H .non Ext.refl hh .non
    · cases h
  | .pass, W, c, X, ps, F, po, h => by
    unfold chkS at h
    split at h
    · exact ps_imp ps_pass fun D σ H ⟨ρ, S, env, he, hh, hs⟩ => hs ρ H σ Ext.refl hh he
    · cases h
  | .brk, W, c, X, ps, F, po, h => by
    unfold chkS at h
    split at h
    · exact ps_imp ps_break fun D σ H ⟨ρ, S, env, he, hh, hs⟩ => hs ρ H σ Ext.refl hh he
    · cases h
  | .cont, W, c, X, ps, F, po, h => by
    unfold chkS at h
    split at h
    · exact ps_imp ps_continue fun D σ H ⟨ρ, S, env, he, hh, hs⟩ => hs ρ H σ Ext.refl hh he
    · cases h
  | .never, W, c, X, ps, F, po, h => ps_imp ps_never fun D σ H ⟨ρ, S, env, he, hh, hs⟩ => hs
  | .par _ _ _ _, W, c, X, ps, F, po, h => by simp [chkS] at h
  | .ifS t a b, W, c, X, ps, F, po, h => by
    unfold chkS at h
    split at h
    · simp only [Bool.and_eq_true] at h
      refine ps_imp (ps_if (snd_T t _ F h.1.1) (snd_B a _ F po h.1.2) (snd_B b _ F po h.2)) fun D σ H q => ?_
      obtain ⟨ρ, S, env, he, hh, hs⟩ := q
      refine ⟨ρ, S, env, he, hh, SatS.stK he hs fun ρ1 S1 x vx H1 f1 hh1 rx hs1 => ?_⟩
      have rx : x = vx := rx
      subst rx
      cases x with
      | true => rw [if_pos rfl]; exact ⟨ρ1, S1, env, he.ext f1, hh1, hs1⟩
      | false => rw [if_neg Bool.false_ne_true]; exact ⟨ρ1, S1, env, he.ext f1, hh1, hs1⟩
    · cases h
  | .whileS t b, W, c, X, ps, F, po, h => by
    unfold chkS at h
    split at h
    · simp only [Bool.and_eq_true] at h
      exact ps_imp (ps_while po (snd_T t _ F h.1) (snd_B b _ F po h.2)) fun D σ H q => while_read q
    · cases h
  | .forS t it b, W, c, X, ps, F, po, h => by
    unfold chkS at h
    split at h
    · simp only [Bool.and_eq_true] at h
      obtain ⟨⟨⟨h1, h2⟩, h3⟩, h4⟩ := h
      exact ps_imp (ps_for po F.calm (snd_I it _ _ F h3) (snd_G F t _ h2) (snd_B b _ F po h4) (set_of h1)) fun D σ H q => for_read q
    · cases h
theorem snd_B : ∀ (b : Bk) {W : WX} {c : Cs} {X : Cx} (ps : List Stmt), Fit G T W P k c X → PassesOwn (model X.prog X.w) X.A X.env X.xe → chkB G c b ps = true → PSs X ps (rdS T W (evalB P b))
  | .nil, W, c, X, ps, F, po, h => by
    unfold chkB at h
    split at h
    · exact pss_imp pss_nil fun D σ H ⟨ρ, S, env, he, hh, hs⟩ => hs ρ H σ Ext.refl hh he
    · cases h
  | .cons s b, W, c, X, ps, F, po, h => by
    unfold chkB at h
    split at h
    · simp only [Bool.and_eq_true] at h
      refine pss_imp (pss_cons (snd_S s _ F po h.1) (snd_B b _ F po h.2)) fun D σ H q => ?_
      obtain ⟨ρ, S, env, he, hh, hs⟩ := q
      simp only [evalB] at hs
      refine ⟨ρ, S, env, he, hh, ?_⟩
      cases hm : evalS P s env S with
      | nx e1 S1 =>
        rw [hm] at hs
        exact fun ρ1 H1 σ1 f hh1 he1 => ⟨ρ1, S1, e1, he1, hh1, SatS.shift f hs⟩
      | rt r S1 => rw [hm] at hs; exact hs
      | bk e1 S1 => rw [hm] at hs; exact hs
      | ct e1 S1 => rw [hm] at hs; exact hs
      | ex y e1 S1 => rw [hm] at hs; exact hs
      | stuck => rw [hm] at hs; exact hs
    · cases h
end
end
end Deep

set_option Elab.async false
set_option linter.all false
set_option maxRecDepth 100000
set_option maxHeartbeats 8000000
/-! The deep layer, 10: defs, by induction over the level; the end of a law. -/
namespace Deep
open PySem PySem.Spec PyProof.Rows L2
theorem lookup_zip : ∀ {ps : List Str} {us : List Value} {x : Str}, us.length = ps.length → x ∈ ps → ((ps.zip us).lookup x).isNone = false
  | p :: ps, u :: us, x, hl, hx => by
    rw [List.zip_cons_cons, List.lookup_cons]
    cases hb : x == p with
    | true => rfl
    | false =>
      rcases List.mem_cons.mp hx with e | h
      · subst e; simp at hb
      · exact lookup_zip (by simpa using hl) h
theorem fm_congr {α β : Type} {f g : α → Option β} : ∀ {l : List α}, (∀ x ∈ l, f x = g x) → l.filterMap f = l.filterMap g
  | [], _ => rfl
  | x :: l, h => by
    rw [List.filterMap_cons, List.filterMap_cons, h x List.mem_cons_self, fm_congr fun y hy => h y (List.mem_cons_of_mem _ hy)]
theorem fm_zip : ∀ {ps : List Str} {us : List Value}, us.length = ps.length → ps.Nodup → ps.filterMap (fun n => Option.map (fun x => (n, x)) ((ps.zip us).lookup n)) = ps.zip us
  | [], [], _, _ => rfl
  | p :: ps, u :: us, hl, hn => by
    rw [List.nodup_cons] at hn
    have ih := fm_zip (ps := ps) (us := us) (by simpa using hl) hn.2
    have e1 : ((p, u) :: ps.zip us).lookup p = some u := by rw [List.lookup_cons]; simp
    rw [List.zip_cons_cons, List.filterMap_cons, e1]
    show (p, u) :: List.filterMap _ ps = (p, u) :: ps.zip us
    refine congrArg _ (Eq.trans ?_ ih)
    refine fm_congr fun x hx => ?_
    have ne : (x == p) = false := by
      cases hb : x == p with
      | false => rfl
      | true => rw [beq_iff_eq] at hb; subst hb; exact absurd hx hn.1
    rw [List.lookup_cons, ne]
theorem bind_plain {fd : FuncData} {as : List Arg} {us : List Value} (hp : fd.params = ⟨[], as, none, [], [], none, []⟩) (hd : fd.defaults = .none) (hl : us.length = (as.map (·.arg)).length) (hn : (as.map (·.arg)).Nodup) : bindArgs fd ⟨us, []⟩ = pure ((as.map (·.arg)).zip us) := by
  obtain ⟨n1, n2, n3, n4, n5, n6, n7, n8, n9, n10, n11, n12, n13, n14, n15⟩ := fd
  simp only at hp hd
  subst hp; subst hd
  have h1 : ((as.map (·.arg)).take ((as.map (·.arg)).length)).filter (fun n => (((as.map (·.arg)).zip us).lookup n).isNone) = [] := by
    rw [List.take_length]
    refine List.filter_eq_nil_iff.mpr fun x hx => ?_
    rw [lookup_zip hl hx]
    exact Bool.false_ne_true
  have h2 : decide (us.length > (as.map (·.arg)).length) = false := decide_eq_false (by omega)
  have h3 : seqItems? Value.none = pure none := rfl
  have h4 : ((none : Option (Array Value)).getD #[]).toList = [] := rfl
  unfold bindArgs
  simp only [List.map_nil, List.nil_append, List.forIn_nil, pure_bind, bind_pure_comp, h3, h2, Bool.false_and, Bool.false_eq_true, if_false, h4, List.drop_nil, List.length_nil, Nat.sub_zero, h1, List.isEmpty_nil, Bool.not_true, List.drop_length, List.zip_nil_left, List.append_nil]
  rw [map_pure, fm_zip hl hn]

/-! ### a call's end -/
section
variable {T : Tb} {ρ ρ' : Rho} {S S' : Store} {H H' : Hp}
mutual
theorem Rep.under (hh : HRep T ρ S H) {H1 : Hp} : ∀ {x : PV} {v : V}, Rep T ρ H1 x v → x.under S.length = true
  | _, _, .non => rfl
  | _, _, .bool _ => rfl
  | _, _, .int _ => rfl
  | _, _, .str _ => rfl
  | .ref m, _, .ref h => by
    obtain ⟨o, e, _⟩ := hh.dom _ _ h
    exact decide_eq_true (List.getElem?_eq_some_iff.mp e).1
  | .ref m, _, .ro h => by
    obtain ⟨xs, e⟩ := hh.rof _ _ h
    exact decide_eq_true (List.getElem?_eq_some_iff.mp e).1
  | .tup xs, _, .tup _ r => RepL.under hh r
theorem RepL.under (hh : HRep T ρ S H) {H1 : Hp} : ∀ {xs : List PV} {vs : List V}, RepL T ρ H1 xs vs → PV.underL S.length xs = true
  | _, _, .nil => rfl
  | x :: xs, _, .cons h r => by
    show (x.under S.length && PV.underL S.length xs) = true
    rw [Rep.under hh h, RepL.under hh r]
    rfl
end
def cutR (ρ : Rho) (n : Nat) : Rho := fun m => if m < n then ρ m else none
mutual
theorem Rep.cut {n : Nat} : ∀ {x : PV} {v : V}, Rep T ρ H x v → x.under n = true → Rep T (cutR ρ n) H x v
  | _, _, .non, _ => .non
  | _, _, .bool b, _ => .bool b
  | _, _, .int i, _ => .int i
  | _, _, .str z, _ => .str z
  | .ref m, _, .ref h, u => .ref (by
      have u : m < n := of_decide_eq_true u
      show (if m < n then ρ m else none) = _
      rw [if_pos u]
      exact h)
  | .ref m, _, .ro h, _ => .ro h
  | .tup xs, _, .tup h r, u => .tup h (RepL.cut' r u)
theorem RepL.cut' {n : Nat} : ∀ {xs : List PV} {vs : List V}, RepL T ρ H xs vs → PV.underL n xs = true → RepL T (cutR ρ n) H xs vs
  | _, _, .nil, _ => .nil
  | x :: xs, _, .cons h r, u => by
    have u : (x.under n && PV.underL n xs) = true := u
    rw [Bool.and_eq_true] at u
    exact .cons (h.cut u.1) (RepL.cut' r u.2)
end
theorem keepOk_at : ∀ {S S' : Store} {n : Nat}, keepOk n S S' = true → S.length ≤ S'.length ∧ ∀ (i : Nat) (o : MO), S[i]? = some o → ∃ o', S'[i]? = some o' ∧ (o = o' ∨ o'.under n = true)
  | [], S', n, _ => ⟨Nat.zero_le _, fun i o h => by simp at h⟩
  | _ :: _, [], n, h => by simp [keepOk] at h
  | o :: S, o' :: S', n, h => by
    simp only [keepOk, Bool.and_eq_true, Bool.or_eq_true, decide_eq_true_eq] at h
    obtain ⟨h1, h2⟩ := keepOk_at h.2
    refine ⟨Nat.succ_le_succ h1, fun i u hu => ?_⟩
    cases i with
    | zero => simp at hu; subst hu; exact ⟨o', rfl, h.1⟩
    | succ i => exact h2 i u (by simpa using hu)
theorem cut_state (hh : HRep T ρ S H) (e : Ext ρ ρ' H H') (hh' : HRep T ρ' S' H') (k : keepOk S.length S S' = true) : Ext ρ (cutR ρ' S.length) H H' ∧ HRep T (cutR ρ' S.length) (S'.take S.length) H' := by
  obtain ⟨kl, kk⟩ := keepOk_at k
  have lt : ∀ {n a}, ρ n = some a → n < S.length := fun {n a} h => by
    obtain ⟨o, q, _⟩ := hh.dom n a h
    exact (List.getElem?_eq_some_iff.mp q).1
  have cu : ∀ {n a}, cutR ρ' S.length n = some a → n < S.length ∧ ρ' n = some a := fun {n a} h => by
    unfold cutR at h
    by_cases hn : n < S.length
    · rw [if_pos hn] at h; exact ⟨hn, h⟩
    · rw [if_neg hn] at h; cases h
  have tk : ∀ {n : Nat} {o : MO}, (S'.take S.length)[n]? = some o → n < S.length ∧ S'[n]? = some o := fun {n o} h => by
    rw [List.getElem?_take] at h
    by_cases hn : n < S.length
    · rw [if_pos hn] at h; exact ⟨hn, h⟩
    · rw [if_neg hn] at h; cases h
  have tk' : ∀ {n : Nat} {o : MO}, n < S.length → S'[n]? = some o → (S'.take S.length)[n]? = some o := fun {n o} hn h => by
    rw [List.getElem?_take, if_pos hn]; exact h
  refine ⟨⟨fun n a h => ?_, e.tup, e.frz, e.frame, fun n a h => e.new n a (cu h).2, e.dom⟩, ⟨fun n o h => ?_, fun n a h => ?_, fun n a h => ?_, fun n m a h1 h2 => hh'.inj n m a (cu h1).2 (cu h2).2⟩⟩
  · show (if n < S.length then ρ' n else none) = _
    rw [if_pos (lt h)]
    exact e.sub n a h
  · obtain ⟨hn, ho⟩ := tk h
    have rep := hh'.obj n o ho
    obtain ⟨o', q1, q2⟩ := kk n S[n] (List.getElem?_eq_getElem hn)
    rw [ho] at q1
    cases q1
    have cn : ∀ a, ρ' n = some a → cutR ρ' S.length n = some a := fun a z => by
      show (if n < S.length then ρ' n else none) = _
      rw [if_pos hn]; exact z
    have und : o.under S.length = true := by
      rcases q2 with q2 | q2
      · have r0 := hh.obj n S[n] (List.getElem?_eq_getElem hn)
        rw [q2] at r0
        cases o with
        | lst xs => obtain ⟨a, vs, _, _, z⟩ := r0; exact RepL.under hh z
        | ro xs => obtain ⟨a, vs, _, _, z⟩ := r0; exact RepL.under hh z
        | dict _ => exact r0.elim
      · exact q2
    cases o with
    | lst xs => obtain ⟨a, vs, z1, z2, z3⟩ := rep; exact ⟨a, vs, cn a z1, z2, z3.cut' und⟩
    | ro xs => obtain ⟨a, vs, z1, z2, z3⟩ := rep; exact ⟨a, vs, z1, z2, z3.cut' und⟩
    | dict _ => exact rep
  · obtain ⟨hn, h'⟩ := cu h
    obtain ⟨o, q, m⟩ := hh'.dom n a h'
    exact ⟨o, tk' hn q, m⟩
  · obtain ⟨xs, q⟩ := hh.rof n a h
    obtain ⟨ys, q'⟩ := hh'.rof n a h
    exact ⟨ys, tk' (List.getElem?_eq_some_iff.mp q).1 q'⟩
theorem gcR_rep {r : RV} {v : V} (hh : HRep T ρ S H) (e : Ext ρ ρ' H H') (hh' : HRep T ρ' S' H') (rr : RepR T ρ' H H' r v) : ∃ ρ2, Ext ρ ρ2 H H' ∧ HRep T ρ2 (gcR S r S').2 H' ∧ RepR T ρ2 H H' (gcR S r S').1 v := by
  have none_ : ∃ ρ2, Ext ρ ρ2 H H' ∧ HRep T ρ2 (r, S').2 H' ∧ RepR T ρ2 H H' (r, S').1 v := ⟨ρ', e, hh', rr⟩
  have cu : ∀ {n a}, cutR ρ' S.length n = some a → n < S.length ∧ ρ' n = some a := fun {n a} h => by
    unfold cutR at h
    by_cases hn : n < S.length
    · rw [if_pos hn] at h; exact ⟨hn, h⟩
    · rw [if_neg hn] at h; cases h
  unfold gcR
  split
  · rename_i hk
    obtain ⟨e2, hh2⟩ := cut_state hh e hh' hk
    split
    · rename_i m
      split
      · rename_i hm
        exact ⟨_, e2, hh2, Rep.cut rr (decide_eq_true hm)⟩
      · rename_i hm
        split
        · rename_i xs hx
          split
          · rename_i hu
            obtain ⟨a, vs, rfl, h1, h2, h3⟩ := hh'.lstAt hx rr
            refine ⟨_, e2, hh2, a, vs, rfl, h2, h3.cut' hu, fun n z => ?_, ?_⟩
            · obtain ⟨z1, z2⟩ := cu z
              exact hm (by rw [← hh'.inj n m a z2 h1]; exact z1)
            · rcases e.new m a h1 with z | z
              · obtain ⟨o, q, _⟩ := hh.dom m a z
                exact absurd (List.getElem?_eq_some_iff.mp q).1 hm
              · exact z
          · exact none_
        · rename_i kvs hx
          exact (hh'.obj m _ hx).elim
        · exact none_
    · rename_i x hne
      split
      · rename_i hu
        exact ⟨_, e2, hh2, Rep.cut rr hu⟩
      · exact none_
    · rename_i xs
      split
      · rename_i hu
        obtain ⟨a, vs, rfl, h1, h2, h3, h4⟩ := rr
        exact ⟨_, e2, hh2, a, vs, rfl, h1, h2.cut' hu, fun n z => h3 n (cu z).2, h4⟩
      · exact none_
    · exact rr.elim
  · exact none_
theorem gcX_rep {x : Exc} {cls : Value} {d : Option Addr} (hh : HRep T ρ S H) (e : Ext ρ ρ' H H') (hh' : HRep T ρ' S' H') (xr : XRep T ρ' H' x cls d) : ∃ ρ2, Ext ρ ρ2 H H' ∧ HRep T ρ2 (gcX S x S') H' ∧ XRep T ρ2 H' x cls d := by
  unfold gcX
  split
  · rename_i hk
    rw [Bool.and_eq_true] at hk
    obtain ⟨e2, hh2⟩ := cut_state hh e hh' hk.1
    obtain ⟨nm, fl, h1, h2, dd, fs, h3, h4, h5, h6⟩ := xr
    refine ⟨_, e2, hh2, nm, fl, h1, h2, dd, fs, h3, h4, h5, fun i f y hf hy => ?_⟩
    obtain ⟨v, z1, z2⟩ := h6 i f y hf hy
    have at_ : ∀ {l : List PV} {i : Nat} {y : PV}, PV.underL S.length l = true → l[i]? = some y → y.under S.length = true := by
      intro l
      induction l with
      | nil => intro i y _ h; simp at h
      | cons z l ih =>
        intro i y hu h
        have hu : (z.under S.length && PV.underL S.length l) = true := hu
        rw [Bool.and_eq_true] at hu
        cases i with
        | zero => simp at h; subst h; exact hu.1
        | succ i => exact ih hu.2 (by simpa using h)
    exact ⟨v, z1, z2.cut (at_ hk.2 hy)⟩
  · exact ⟨ρ', e, hh', xr⟩
end

/-! ### the table of a program -/
structure Ent where
  id : Nat
  name : Str
  st : Stmt
  N : List Str
  ps : List Str
  fd : FD
abbrev Glb := Nat × Str × PV
def tabG (tab : List Ent) (gs : List Glb) : GT where
  fname := fun f => ((tab.find? fun e => e.id == f).map (·.name)).getD Str.empty
  ar := fun f => (tab.find? fun e => e.id == f).map (·.ps.length)
  gname := fun g => ((gs.find? fun e => e.1 == g).map (·.2.1)).getD Str.empty
def tabPr (tab : List Ent) : Prog := fun f => (tab.find? fun e => e.id == f).map (·.fd)
def tabGl (gs : List Glb) : Nat → Option PV := fun g => (gs.find? fun e => e.1 == g).map (·.2.2)
def plainArgs (a : Arguments) (ps : List Str) : Bool := match a with
  | ⟨[], as, none, [], [], none, []⟩ => decide (as.map (·.arg) = ps)
  | _ => false
def scopeB (N ps : List Str) (sc : Scope) : Bool := (match sc.kind with
    | .function => true
    | _ => false) && !sc.isCoroutine && !sc.isGenerator && decide N.Nodup && decide (N.take ps.length = ps) &&
  (ps.all fun x => match sc.names.lookup x with
    | some .local => true
    | some .cell => true
    | _ => false) && (sc.names.all fun y => match y.2 with
    | .free => false
    | _ => true)
def entOk (G : GT) (e : Ent) : Bool := scopeB e.N e.ps (defScope e.st) && plainArgs (defArgs e.st) e.ps && decide (e.fd.np = e.ps.length) && decide (e.fd.ns = e.N.length) && chkB G ⟨e.N, defScope e.st, defScope e.st⟩ e.fd.body (defBody e.st)
theorem scopeB_ok {N ps : List Str} {sc : Scope} (h : scopeB N ps sc = true) : FnScope N ps sc := by
  simp only [scopeB, Bool.and_eq_true, Bool.not_eq_true', decide_eq_true_eq] at h
  obtain ⟨⟨⟨⟨⟨⟨h1, h2⟩, h3⟩, h4⟩, h5⟩, h6⟩, h7⟩ := h
  refine ⟨?_, h2, h3, h4, h5, fun x hx => ?_, fun y hy e => ?_⟩
  · split at h1
    · assumption
    · cases h1
  · have z := List.all_eq_true.mp h6 x hx
    split at z
    · exact .inl (by assumption)
    · exact .inr (by assumption)
    · cases z
  · have z := List.all_eq_true.mp h7 y hy
    rw [e] at z
    cases z
section
variable {T : Tb} {prog : Program} {w : World} {mg : Str → Option Value} {base : Heap} {fuel : Nat}
theorem enter_rep {ρ : Rho} {H : Hp} {fd : FD} {args : List PV} {vs : List V} {N : List Str} (hn : fd.ns = N.length) (r : RepL T ρ H args vs) (hl : vs.length ≤ N.length) : EnvRep T ρ H (enter fd args) (L2.start N vs) := by
  have e := r.length
  refine ⟨by simp [enter, L2.start, e, hn], fun i x h => ?_⟩
  unfold enter at h
  by_cases hi : i < args.length
  · rw [List.getElem?_append_left (by simpa using hi), List.getElem?_map] at h
    obtain ⟨y, hy, e2⟩ := Option.map_eq_some_iff.mp h
    cases e2
    obtain ⟨v, h1, h2⟩ := r.get hy
    refine ⟨v, ?_, h2⟩
    unfold L2.start
    rw [List.getElem?_append_left (by simp; omega), List.getElem?_map, h1]
    rfl
  · rw [List.getElem?_append_right (by simpa using hi)] at h
    rw [List.getElem?_replicate] at h
    split at h <;> cases h
theorem fn_step {k : Nat} {G : GT} {Pr : Prog} {gl : Nat → Option PV} {e : Ent} {a : Addr} {fdt : FuncData} (fns : Fns G T ⟨evalFn Pr gl fuel k, gl, fuel⟩ k prog w mg base) (F : FunD T.K e.name e.name (defArgs e.st) (defBody e.st) (defScope e.st) [] [] a fdt)
    (ok : entOk G e = true) (hp : Pr e.id = some e.fd) : FnOk prog w T.K mg base (CX prog w) (k + 1) a fdt e.ps (spF T e.ps.length (evalFn Pr gl fuel (k + 1) e.id)) := by
  simp only [entOk, Bool.and_eq_true, decide_eq_true_eq] at ok
  obtain ⟨⟨⟨⟨o1, o2⟩, o3⟩, o4⟩, o5⟩ := ok
  have S := scopeB_ok o1
  have hpre : e.ps.length ≤ e.N.length := by
    have := congrArg List.length S.pre
    rw [List.length_take] at this
    omega
  refine F.ok S (fun vs H Q E h => h.1) fun cdv A outer s H vs Q E hr hsp => ?_
  have hfit : Fit G T (fun cls d _ H => E cls d H) ⟨evalFn Pr gl fuel k, gl, fuel⟩ k ⟨e.N, defScope e.st, defScope e.st⟩ (cxOf (CX prog w) prog w T.K mg base e.N e.name (defScope e.st) a cdv A outer s H E) :=
    ⟨rfl, rfl, S.nd, rfl, rfl, hr, fns, takes_of rfl rfl rfl rfl, fun x hx => by
      unfold bndB at hx
      split at hx
      · rename_i q; exact ⟨.inl q, .inl rfl⟩
      · rename_i q; exact ⟨.inr q, .inl rfl⟩
      · cases hx⟩
  refine ⟨_, snd_B e.fd.body _ hfit (passes_of (K := fun e' s'' => CX prog w outer H s E e' s'') (E₁ := fun e' s'' => CX prog w outer H s E e' s'') rfl) o5, ?_⟩
  obtain ⟨hl, ρ, S0, args, hh, rl, sat⟩ := hsp
  have hal : args.length = e.fd.np := by rw [rl.length, hl, o3]
  have eq : evalFn Pr gl fuel (k + 1) e.id args S0 = finR S0 (evalB ⟨evalFn Pr gl fuel k, gl, fuel⟩ e.fd.body (enter e.fd args) S0) := by
    simp only [evalFn, hp, hal, if_true]
  rw [eq] at sat
  refine ⟨ρ, S0, enter e.fd args, enter_rep o4 rl (by rw [hl]; exact hpre), hh, ?_⟩
  cases hb : evalB ⟨evalFn Pr gl fuel k, gl, fuel⟩ e.fd.body (enter e.fd args) S0 with
  | stuck => rw [hb] at sat; exact sat.elim
  | bk e1 S1 => rw [hb] at sat; exact sat.elim
  | ct e1 S1 => rw [hb] at sat; exact sat.elim
  | nx e1 S1 =>
    rw [hb] at sat
    intro ρ1 H1 σ1 f1 hh1 he1
    obtain ⟨ρ2, f2, hh2, rr2⟩ := gcR_rep (r := .v .non) (v := .non) hh f1 hh1 .non
    exact sat ρ2 H1 .non f2 hh2 rr2
  | rt r S1 =>
    rw [hb] at sat
    intro ρ1 H1 v f1 hh1 rr
    obtain ⟨ρ2, f2, hh2, rr2⟩ := gcR_rep hh f1 hh1 rr
    exact sat ρ2 H1 v f2 hh2 rr2
  | ex x e1 S1 =>
    rw [hb] at sat
    intro ρ1 H1 σ1 cls d f1 hh1 he1 xr
    obtain ⟨ρ2, f2, hh2, xr2⟩ := gcX_rep hh f1 hh1 xr
    exact sat ρ2 H1 cls d f2 hh2 xr2
/-- what the head tells of a program's table -/
structure Facts (T : Tb) (mg : Str → Option Value) (tab : List Ent) (gs : List Glb) : Prop where
  fn : ∀ e ∈ tab, ∃ fdt, FunD T.K e.name e.name (defArgs e.st) (defBody e.st) (defScope e.st) [] [] (He.ga T.K e.name) fdt ∧ mg e.name = some (.ref (He.ga T.K e.name))
  gl : ∀ g ∈ gs, ∃ u v, mg g.2.1 = some u ∧ RelV v u ∧ ∀ ρ H, Rep T ρ H g.2.2 v
  free : ∀ x ∈ freeNames, mg x = none
theorem binds_ok {e : Ent} {a : Addr} {fdt : FuncData} {G : GT} (F : FunD T.K e.name e.name (defArgs e.st) (defBody e.st) (defScope e.st) [] [] a fdt) (ok : entOk G e = true) :
    (∀ (kV doc pm : Value) (an : Option Addr) (cdv ct : Value) (us : List Value), us.length = e.ps.length → bindArgs (PySem.W.fnOf e.name e.name (defArgs e.st) (defBody e.st) (defScope e.st) .none kV doc pm an cdv ct) ⟨us, []⟩ = pure (e.ps.zip us)) := by
  simp only [entOk, Bool.and_eq_true, decide_eq_true_eq] at ok
  obtain ⟨⟨⟨⟨o1, o2⟩, o3⟩, o4⟩, o5⟩ := ok
  have S := scopeB_ok o1
  have ndp : e.ps.Nodup := by
    rw [← S.pre]
    exact List.Nodup.sublist (List.take_sublist _ _) S.nd
  intro kV doc pm an cdv ct us hl
  unfold plainArgs at o2
  split at o2
  · rename_i as ha
    have o2 := of_decide_eq_true o2
    rw [← o2]
    exact bind_plain (by show defArgs e.st = _; exact ha) rfl (by rw [o2]; exact hl) (by rw [o2]; exact ndp)
  · cases o2
theorem find_tab {tab : List Ent} {f : Nat} {e : Ent} (h : tab.find? (fun e => e.id == f) = some e) : e ∈ tab ∧ e.id = f :=
  ⟨List.mem_of_find?_eq_some h, by have := List.find?_some h; simpa using this⟩
theorem fns_all {tab : List Ent} {gs : List Glb} (fc : Facts T mg tab gs) (ok : tab.all (entOk (tabG tab gs)) = true) : ∀ k, Fns (tabG tab gs) T ⟨evalFn (tabPr tab) (tabGl gs) fuel k, tabGl gs, fuel⟩ k prog w mg base := by
  have hgl : ∀ k g x, (⟨evalFn (tabPr tab) (tabGl gs) fuel k, tabGl gs, fuel⟩ : Par).glob g = some x → ∃ u v, mg ((tabG tab gs).gname g) = some u ∧ RelV v u ∧ ∀ ρ H, Rep T ρ H x v := fun k g x h => by
    have h : (gs.find? fun e => e.1 == g).map (·.2.2) = some x := h
    obtain ⟨e, he, rfl⟩ := Option.map_eq_some_iff.mp h
    have hm := List.mem_of_find?_eq_some he
    show ∃ u v, mg (((gs.find? fun e => e.1 == g).map (·.2.1)).getD Str.empty) = some u ∧ _
    rw [he]
    exact fc.gl e hm
  have hfn : ∀ k, (∀ e ∈ tab, ∀ fdt, FunD T.K e.name e.name (defArgs e.st) (defBody e.st) (defScope e.st) [] [] (He.ga T.K e.name) fdt → tabPr tab e.id = some e.fd → FnOk prog w T.K mg base (CX prog w) k (He.ga T.K e.name) fdt e.ps (spF T e.ps.length (evalFn (tabPr tab) (tabGl gs) fuel k e.id))) →
      Fns (tabG tab gs) T ⟨evalFn (tabPr tab) (tabGl gs) fuel k, tabGl gs, fuel⟩ k prog w mg base := fun k hk => by
    refine ⟨fun f np h => ?_, hgl k, fc.free⟩
    have h : (tab.find? fun e => e.id == f).map (·.ps.length) = some np := h
    obtain ⟨e, he, rfl⟩ := Option.map_eq_some_iff.mp h
    obtain ⟨hm, hid⟩ := find_tab he
    obtain ⟨fdt, F, hmg⟩ := fc.fn e hm
    have hok := List.all_eq_true.mp ok e hm
    have hpr : tabPr tab e.id = some e.fd := by
      show (tab.find? fun e' => e'.id == e.id).map (·.fd) = _
      rw [hid, he]
      rfl
    refine ⟨He.ga T.K e.name, fdt, e.ps, ?_, F.kp, ?_, F.bindsN (binds_ok F hok)⟩
    · show mg (((tab.find? fun e => e.id == f).map (·.name)).getD Str.empty) = _
      rw [he]
      exact hmg
    · have z := hk e hm fdt F hpr
      rw [hid] at z
      exact z
  intro k
  induction k with
  | zero => exact hfn 0 fun e he fdt F hpr => ⟨fun vs H Q E h => h.1, fun A outer s H args us vs Q E _ _ _ _ h => by
      obtain ⟨_, ρ, S, as, _, _, h⟩ := h
      exact h.elim⟩
  | succ k ih => exact hfn (k + 1) fun e he fdt F hpr => fn_step ih F (List.all_eq_true.mp ok e he) hpr

/-! ### the end of a law -/
/-- the promise of the law's def, whatever the script's place -/
def spLaw (K : PySem.W.Frag) (cls : Nat → Option (Str × List Str)) (call : List PV → Store → Res RV) : Sp := fun vs H Q E => ∃ a, spF ⟨K, fun n => if n = 0 then some a else none, cls⟩ 1 call vs H Q E
theorem law_end {l : PySem.W.OpenLaw} {K : PySem.W.Frag} {cls : Nat → Option (Str × List Str)} {h : Heap} {fa : Addr} {k f : Nat} {tab : List Ent} {gs : List Glb} {e : Ent} (KX : K.In h) (hns : h.Ns mainGlobals mg) (hfa : mg ("law" : Str) = some (.ref fa))
    (fc : ∀ ro, Facts ⟨K, ro, cls⟩ mg tab gs) (ok : tab.all (entOk (tabG tab gs)) = true) (he : tab.find? (fun e => e.id == f) = some e) (hn : e.name = ("law" : Str)) (hps : e.ps = (["script"] : List Str))
    (run : ∀ ns : List Int, ns.length ≤ 63 → ∃ S, evalFn (tabPr tab) (tabGl gs) fuel k f [.ref 0] [.ro (ns.map .int)] = .ok (.v (.bool true)) S) :
    ∃ (K : PySem.W.Frag) (fd : FuncData) (sp : Sp), K.In h ∧ (∀ (s : Shared) (u : Value), BindsTo s fd ⟨[u], []⟩ [(("script" : Str), u)]) ∧
      (∀ (H : Hp) (a : Addr) (ns : List Int), ns.length ≤ 63 → Only H → SqL K H a (ns.map V.int) → sp [.ref a] H (fun v _ => v = .bl true) fun _ _ _ => False) ∧
        ∀ base : Heap, K.In base → base.Ns mainGlobals mg → FnOk l.prog w K mg base (CX l.prog w) k fa fd (["script"] : List Str) sp := by
  obtain ⟨hm, hid⟩ := find_tab he
  obtain ⟨fdt, F, hmg⟩ := (fc fun _ => none).fn e hm
  have hok := List.all_eq_true.mp ok e hm
  have hpr : tabPr tab e.id = some e.fd := by
    show (tab.find? fun e' => e'.id == e.id).map (·.fd) = _
    rw [hid, he]
    rfl
  have efa : fa = He.ga K e.name := by
    rw [hn] at hmg
    have z := hfa.symm.trans hmg
    rw [hn]
    exact Value.ref.inj (Option.some.inj z)
  refine ⟨K, fdt, spLaw K cls (evalFn (tabPr tab) (tabGl gs) fuel k f), KX, fun s u => ?_, fun H a ns hl hO hS => ?_, fun base _ _ => ?_⟩
  · have z := FunD.bindsA F (binds_ok F hok) s [u] (by rw [hps]; rfl)
    rw [hps] at z
    exact z
  · refine ⟨a, rfl, fun _ => none, [.ro (ns.map .int)], [.ref 0], ⟨fun n o q => ?_, fun n b q => (nomatch q), fun n b q => ?_, fun n m b q => (nomatch q)⟩, .cons (.ro (show (if (0:Nat) = 0 then some a else none) = some a from if_pos rfl)) .nil, ?_⟩
    · cases n with
      | zero =>
        simp at q
        subst q
        refine ⟨a, ns.map V.int, show (if (0:Nat) = 0 then some a else none) = some a from if_pos rfl, ?_, ?_⟩
        · rcases hS with (z | ⟨o, z⟩) | z
          · rcases hO a with y | ⟨o, xs, y⟩
            · rw [z] at y; cases y
            · rw [z] at y; cases y
          · exact .inl ⟨o, z⟩
          · exact .inr z
        · have : ∀ ns : List Int, RepL ⟨K, fun n => if n = 0 then some a else none, cls⟩ (fun _ => none) H (ns.map PV.int) (ns.map V.int) := by
            intro ns
            induction ns with
            | nil => exact .nil
            | cons n ns ih => exact .cons (.int n) ih
          exact this ns
      | succ n => simp at q
    · have q : (if n = 0 then some a else none) = some b := q
      by_cases hz : n = 0
      · subst hz; exact ⟨_, rfl⟩
      · rw [if_neg hz] at q; cases q
    · obtain ⟨S, q⟩ := run ns hl
      rw [q]
      intro ρ' H' v _ _ r
      cases r
      rfl
  · have all : ∀ a, FnOk l.prog w K mg base (CX l.prog w) k fa fdt (["script"] : List Str) (spF ⟨K, fun n => if n = 0 then some a else none, cls⟩ 1 (evalFn (tabPr tab) (tabGl gs) fuel k f)) := fun a => by
      cases k with
      | zero => exact ⟨fun vs H Q E h => h.1, fun A outer s H args us vs Q E _ _ _ _ h => by
          obtain ⟨_, ρ, S, as, _, _, h⟩ := h
          exact h.elim⟩
      | succ k =>
        have z := fn_step (k := k) (base := base) (w := w) (prog := l.prog) (fuel := fuel) (T := ⟨K, fun n => if n = 0 then some a else none, cls⟩) (fns_all (fc _) ok k) F hok hpr
        rw [hps, hid] at z
        rw [efa]
        exact z
    exact ⟨fun vs H Q E ⟨a, h⟩ => (all a).len vs H Q E h, fun A outer s H args us vs Q E h1 h2 h3 h4 ⟨a, h⟩ => (all a).run A outer s H args us vs Q E h1 h2 h3 h4 h⟩
end
end Deep

set_option Elab.async false
set_option linter.all false
set_option maxRecDepth 100000
set_option maxHeartbeats 8000000
/-! The deep layer, 11: a law from its table, its checks and its run. -/
namespace Deep
open PySem PySem.Spec PyProof.Rows L2
def Ent.dd (e : Ent) : He.DefD := ⟨(e.name, none), e.name, e.name, defArgs e.st, defBody e.st, defScope e.st, [], []⟩
def deepFn (tab : List Ent) : List He.DefD := tab.map Ent.dd
def glFa (g : Glb) : He.Fa := match g.2.2 with
  | .int i => .int g.2.1 i
  | .str z => .str g.2.1 z
  | _ => .free g.2.1
def deepFa (tab : List Ent) (gs : List Glb) : List He.Fa := freeNames.map .free ++ (tab.map (fun e => .glo e.name) ++ gs.map glFa)
def glOk (g : Glb) : Bool := match g.2.2 with
  | .int _ => true
  | .str _ => true
  | _ => false
theorem facts_of {tab : List Ent} {gs : List Glb} {K : PySem.W.Frag} {h : Heap} {mg : Str → Option Value} {cls : Nat → Option (Str × List Str)} (KX : K.In h) (hns : h.Ns mainGlobals mg) (c : He.SaysD (deepFa tab gs) (deepFn tab) K) (hg : gs.all glOk = true) (ro : Nat → Option Addr) : Facts ⟨K, ro, cls⟩ mg tab gs := by
  refine ⟨fun e he => ?_, fun g hgm => ?_, fun x hx => ?_⟩
  · obtain ⟨fd, F⟩ := c.defs (d := e.dd) (List.mem_map.mpr ⟨e, he, rfl⟩)
    refine ⟨fd, F, He.glo_ok KX hns (c.facts (f := .glo e.name) ?_)⟩
    exact List.mem_append_right _ (List.mem_append_left _ (List.mem_map.mpr ⟨e, he, rfl⟩))
  · have m : glFa g ∈ deepFa tab gs := List.mem_append_right _ (List.mem_append_right _ (List.mem_map.mpr ⟨g, hgm, rfl⟩))
    have z := List.all_eq_true.mp hg g hgm
    have fk := c.facts m
    obtain ⟨n, x, v⟩ := g
    cases v with
    | int i =>
      obtain ⟨t, e⟩ := He.int_ok KX hns (x := x) (i := i) fk
      exact ⟨_, .int i, e, ⟨t, rfl⟩, fun _ _ => .int i⟩
    | str s =>
      obtain ⟨t, e⟩ := He.str_ok KX hns (x := x) (z := s) fk
      exact ⟨_, .str s, e, ⟨t, rfl⟩, fun _ _ => .str s⟩
    | _ => cases z
  · exact He.free_ok KX hns (c.facts (f := .free x) (List.mem_append_left _ (List.mem_map.mpr ⟨x, hx, rfl⟩)))
theorem fnok_cx {P : Program} {w : World} {K : PySem.W.Frag} {mg : Str → Option Value} {base : Heap} {C C' : CXT} {k : Nat} {f : Addr} {fd : FuncData} {ps : List Str} {sp : Sp} (F : FnOk P w K mg base C k f fd ps sp) (h : ∀ o H s E e s', C o H s E e s' → C' o H s E e s') : FnOk P w K mg base C' k f fd ps sp :=
  ⟨F.len, fun A outer s H args us vs Q E h1 h2 h3 h4 h5 => codeAny_mono (F.run A outer s H args us vs Q E h1 h2 h3 h4 h5) fun r s' z => by
    cases r with
    | ok o => cases o <;> exact z
    | error e => exact h _ _ _ _ _ _ z⟩
theorem deep_walk {l : PySem.W.OpenLaw} {N k f fuel : Nat} {q : Program} {loose : List Str} {XP : (Str → Option Value) → Heap → Prop} {d : DefRec} {tab : List Ent} {gs : List Glb} {e : Ent}
    (hn : l.most = some 63) (hdf : d.params.defaults = []) (hr : Room k callerA) (hd : d.name = ("law" : Str)) (hg : gs.all glOk = true) (ok : tab.all (entOk (tabG tab gs)) = true) (he : tab.find? (fun e => e.id == f) = some e)
    (hen : e.name = ("law" : Str)) (hps : e.ps = (["script"] : List Str)) (run : ∀ ns : List Int, ns.length ≤ 63 → ∃ S, evalFn (tabPr tab) (tabGl gs) fuel k f [.ref 0] [.ro (ns.map .int)] = .ok (.v (.bool true)) S) :
    PySem.W.WalkO q loose XP (He.hookD N (deepFa tab gs) (deepFn tab)).says l.row.toRowW d [] (fun f vs => PySem.call f vs) := by
  refine L2.walk_ofE (l := l) (n := 63) (k := k) (x := "script") (CX := fun A h s E e s' => ∃ w, CX l.prog w A h s E e s') hn (by decide) hdf hr (fun w mg fa h Y G hm => ?_) (fun H s e s' z => ?_)
  · obtain ⟨K, KX, c⟩ := Y
    rw [hd] at hm
    obtain ⟨K', fd, sp, h1, h2, h3, h4⟩ := law_end (l := l) (w := w) (K := K) (cls := fun _ => none) KX G hm (facts_of KX G c hg) ok he hen hps run
    exact ⟨K', fd, sp, h1, h2, h3, fun base b1 b2 => fnok_cx (h4 base b1 b2) fun _ _ _ _ _ _ z => ⟨w, z⟩⟩
  · obtain ⟨w, a, B, H', cls, dd, _, _, _, _, _, _, _, z⟩ := z
    exact z
end Deep

set_option Elab.async false
set_option linter.all false
set_option maxRecDepth 100000
set_option maxHeartbeats 8000000
/-! The deep layer, 12: stepping through the evaluator. -/
namespace Deep
open PySem PySem.Spec PyProof.Rows L2
section
variable {α β : Type}
theorem bind_cg {r r' : Res α} {k : α → Store → Res β} (h : r = r') : r.bind k = r'.bind k := by rw [h]
theorem st_cg {r r' : Res α} {env : PEnv} {k : α → Store → SR} (h : r = r') : r.st env k = r'.st env k := by rw [h]
theorem seq_cg {r r' : SR} {k : PEnv → Store → SR} (h : r = r') : r.seq k = r'.seq k := by rw [h]
theorem bind_ok {a : α} {S : Store} {k : α → Store → Res β} : (Res.ok a S).bind k = k a S := rfl
theorem st_ok {a : α} {S : Store} {env : PEnv} {k : α → Store → SR} : (Res.ok a S).st env k = k a S := rfl
theorem of_some {a : α} {S : Store} : Res.of (some a) S = .ok a S := rfl
theorem ofS_some {a : α} {S : Store} : Res.ofS (some (a, S)) = .ok a S := rfl
end
theorem seq_nx {env : PEnv} {S : Store} {k : PEnv → Store → SR} : (SR.nx env S).seq k = k env S := rfl
theorem seq_rt {r : RV} {S : Store} {k : PEnv → Store → SR} : (SR.rt r S).seq k = .rt r S := rfl
theorem seq_bk {env : PEnv} {S : Store} {k : PEnv → Store → SR} : (SR.bk env S).seq k = .bk env S := rfl
theorem seq_ct {env : PEnv} {S : Store} {k : PEnv → Store → SR} : (SR.ct env S).seq k = .ct env S := rfl
theorem seq_ex {x : Exc} {env : PEnv} {S : Store} {k : PEnv → Store → SR} : (SR.ex x env S).seq k = .ex x env S := rfl
theorem ofB_some {p : PEnv} {S : Store} : SR.ofB (some (p, S)) = .nx p S := rfl
theorem call_eq {Pr : Prog} {gl : Nat → Option PV} {fuel k f : Nat} {args : List PV} {S : Store} {fd : FD} (h : Pr f = some fd) (hl : args.length = fd.np) :
    evalFn Pr gl fuel (k + 1) f args S = finR S (evalB ⟨evalFn Pr gl fuel k, gl, fuel⟩ fd.body (enter fd args) S) := by
  simp only [evalFn, h, hl, if_true]
/-! ### operators at known kinds -/
theorem eqRV_int {a b : Int} {S : Store} : eqRV (.v (.int a)) (.v (.int b)) S = some (decide (a = b)) := by
  simp only [eqRV, rvPD, PV.pd, PyData.eqv]
  rfl
/-! ### the store -/
theorem get_new {S : Store} {o : MO} : (S ++ [o])[S.length]? = some o := by simp
theorem set_new {S : Store} {o o' : MO} : (S ++ [o]).set S.length o' = S ++ [o'] := by simp
theorem get_oldS {S T : Store} {n : Nat} {o : MO} (h : S[n]? = some o) : (S ++ T)[n]? = some o := by
  rw [List.getElem?_append_left (List.getElem?_eq_some_iff.mp h).1, h]
theorem keepOk_app : ∀ (S G : Store) (n : Nat), keepOk n S (S ++ G) = true
  | [], G, n => by cases G <;> rfl
  | o :: S, G, n => by
    show ((decide (o = o) || o.under n) && keepOk n S (S ++ G)) = true
    rw [keepOk_app S G n, decide_eq_true rfl]
    rfl
theorem keepOk_set : ∀ (S G : Store) (n i : Nat) (o : MO), o.under n = true → keepOk n S (S.set i o ++ G) = true
  | [], G, n, i, o, h => by cases G <;> rfl
  | x :: S, G, n, 0, o, h => by
    show ((decide (x = o) || o.under n) && keepOk n S (S ++ G)) = true
    rw [keepOk_app S G n, h, Bool.or_true]
    rfl
  | x :: S, G, n, i + 1, o, h => by
    show ((decide (x = x) || x.under n) && keepOk n S (S.set i o ++ G)) = true
    rw [keepOk_set S G n i o h, decide_eq_true rfl]
    rfl
theorem take_app {S G : Store} : (S ++ G).take S.length = S := by simp
/-- a value at a call's end -/
theorem gc_v {S G : Store} {x : PV} (h : x.under S.length = true) : gcR S (.v x) (S ++ G) = (.v x, S) := by
  unfold gcR
  rw [if_pos (keepOk_app S G _)]
  cases x with
  | ref m =>
    have h : m < S.length := of_decide_eq_true h
    simp [h]
  | _ => simp [h]
theorem gc_lst {S G : Store} {xs : List PV} (h : PV.underL S.length xs = true) : gcR S (.lst xs) (S ++ G) = (.lst xs, S) := by
  unfold gcR
  rw [if_pos (keepOk_app S G _)]
  simp [h]
theorem gc_ref {S G : Store} {xs : List PV} {m : Nat} (hm : ¬ m < S.length) (hg : (S ++ G)[m]? = some (.lst xs)) (h : PV.underL S.length xs = true) : gcR S (.v (.ref m)) (S ++ G) = (.lst xs, S) := by
  unfold gcR
  rw [if_pos (keepOk_app S G _)]
  simp only [hm, if_false, hg, h, if_true, take_app]
theorem take_set {S G : Store} {i : Nat} {o : MO} : (S.set i o ++ G).take S.length = S.set i o := by
  have : S.length = (S.set i o).length := by simp
  rw [this]; simp
theorem gc_set {S G : Store} {x : PV} {i : Nat} {o : MO} (ho : o.under S.length = true) (h : x.under S.length = true) : gcR S (.v x) (S.set i o ++ G) = (.v x, S.set i o) := by
  unfold gcR
  rw [if_pos (keepOk_set S G _ i o ho)]
  cases x with
  | ref m =>
    have h : m < S.length := of_decide_eq_true h
    simp [h, take_set]
  | _ => simp [h, take_set]
theorem gc_set0 {S : Store} {x : PV} {i : Nat} {o : MO} (ho : o.under S.length = true) (h : x.under S.length = true) : gcR S (.v x) (S.set i o) = (.v x, S.set i o) := by
  have := gc_set (G := []) (i := i) ho h
  rwa [List.append_nil] at this
theorem gc_v0 {S : Store} {x : PV} (h : x.under S.length = true) : gcR S (.v x) S = (.v x, S) := by
  have := gc_v (G := []) h
  rwa [List.append_nil] at this
theorem gc_lst0 {S : Store} {xs : List PV} (h : PV.underL S.length xs = true) : gcR S (.lst xs) S = (.lst xs, S) := by
  have := gc_lst (G := []) h
  rwa [List.append_nil] at this
theorem under_ints : ∀ (n : Nat) (ns : List Int), PV.underL n (ns.map .int) = true
  | _, [] => rfl
  | n, i :: ns => by
    show (true && PV.underL n (ns.map .int)) = true
    rw [under_ints n ns]; rfl
theorem under_strs : ∀ (n : Nat) (ns : List Str), PV.underL n (ns.map .str) = true
  | _, [] => rfl
  | n, i :: ns => by
    show (true && PV.underL n (ns.map .str)) = true
    rw [under_strs n ns]; rfl
end Deep
namespace Deep
open PySem PySem.Spec PyProof.Rows L2
section
variable {S : Store} {a b : Int} {x y : Str} {xs ys : List PV}
theorem bin_add : binRV .add (.v (.int a)) (.v (.int b)) S = some (.v (.int (a + b))) := rfl
theorem bin_sub : binRV .sub (.v (.int a)) (.v (.int b)) S = some (.v (.int (a - b))) := rfl
theorem bin_mul (h : mulOk a b = true) : binRV .mul (.v (.int a)) (.v (.int b)) S = some (.v (.int (a * b))) := by
  show (if mulOk a b = true then some (RV.v (.int (a * b))) else none) = _
  rw [if_pos h]
theorem bin_fdiv (h : 0 < b) (h2 : b.natAbs < 1073741824) : binRV .fdiv (.v (.int a)) (.v (.int b)) S = some (.v (.int (a / b))) := by
  show (if 0 < b ∧ b.natAbs < 1073741824 then some (RV.v (.int (a / b))) else none) = _
  rw [if_pos ⟨h, h2⟩]
theorem bin_mod (h : 0 < b) : binRV .mod (.v (.int a)) (.v (.int b)) S = some (.v (.int (a % b))) := by
  show (if 0 < b then some (RV.v (.int (a % b))) else none) = _
  rw [if_pos h]
theorem bin_pow {n : Nat} (h : n ≤ 1000000) (h2 : a.natAbs < 2 ^ 64) : binRV .pow (.v (.int a)) (.v (.int (n : Int))) S = some (.v (.int (a ^ n))) := by
  show (if 0 ≤ (n : Int) ∧ (n : Int).natAbs ≤ 1000000 ∧ a.natAbs < 2 ^ 64 then some (RV.v (.int (a ^ (n : Int).toNat))) else none) = _
  rw [if_pos ⟨by omega, by omega, h2⟩]
  rfl
theorem bin_adds (h : x.length + y.length ≤ sizeLine) : binRV .add (.v (.str x)) (.v (.str y)) S = some (.v (.str (x ++ y))) := by
  show (if x.length + y.length ≤ sizeLine then some (RV.v (.str (x ++ y))) else none) = _
  rw [if_pos h]
theorem bin_addt (h : xs.length + ys.length ≤ sizeLine) : binRV .add (.v (.tup xs)) (.v (.tup ys)) S = some (.v (.tup (xs ++ ys))) := by
  show (if xs.length + ys.length ≤ sizeLine then some (RV.v (.tup (xs ++ ys))) else none) = _
  rw [if_pos h]
theorem mulOk_r (h : b.natAbs < 2 ^ 64) : mulOk a b = true := by
  unfold mulOk
  rw [decide_eq_true h, Bool.or_true]
theorem mulOk_l (h : a.natAbs < 2 ^ 64) : mulOk a b = true := by
  unfold mulOk
  rw [decide_eq_true h, Bool.true_or]
theorem bi_lens (h : x.length ≤ sizeLine) : biRV .len [.v (.str x)] S = some (.v (.int x.length)) := by
  show (if x.length ≤ sizeLine then some (RV.v (.int x.length)) else none) = _
  rw [if_pos h]
theorem bi_ints {n : Int} (h : x.length ≤ 640) (e : intText? x = some n) : biRV .int [.v (.str x)] S = some (.v (.int n)) := by
  show (if x.length ≤ 640 then (intText? x).map fun n => RV.v (.int n) else none) = _
  rw [if_pos h, e]
  rfl
theorem bi_str (h : a.natAbs.log2 < 1920) : biRV .str [.v (.int a)] S = some (.v (.str (Str.ofString (toString a)))) := by
  show (if a.natAbs.log2 < 1920 then some (RV.v (.str (Str.ofString (toString a)))) else none) = _
  rw [if_pos h]
theorem me_app {n : Nat} {v : PV} (h : S[n]? = some (.lst xs)) (hl : xs.length < sizeLine) : meRV .append (.v (.ref n)) [.v v] S = some (.v .non, S.set n (.lst (xs ++ [v]))) := by
  simp only [meRV, h]
  rw [if_pos hl]
theorem ix_str {i : Int} (h : x.length ≤ sizeLine) : ixRV (.v (.str x)) (.v (.int i)) S = (L2.atI x.cps.toList i).map fun c => .v (.str ⟨#[c]⟩) := by
  show (if x.length ≤ sizeLine then (L2.atI x.cps.toList i).map fun c => RV.v (.str ⟨#[c]⟩) else none) = _
  rw [if_pos h]
theorem sl_str (h : x.length ≤ sizeLine) {i j : Option Int} : slRV (.v (.str x)) i j S = some (.v (.str (L2.cutS x i j))) := by
  show (if x.length ≤ sizeLine then some (RV.v (.str (L2.cutS x i j))) else none) = _
  rw [if_pos h]
theorem strs_map : ∀ ys : List Str, strs? (ys.map .str) = some ys
  | [] => rfl
  | y :: ys => by
    show (strs? (ys.map .str)).map (y :: ·) = _
    rw [strs_map ys]; rfl
theorem me_joinT {ys : List Str} (h : joinOk x ys = true) : meRV .join (.v (.str x)) [.v (.tup (ys.map .str))] S = some (.v (.str (Txt.join x ys)), S) := by
  simp only [meRV, rdSeq, Option.bind, strs_map]
  rw [if_pos h]
theorem me_joinL {ys : List Str} (h : joinOk x ys = true) : meRV .join (.v (.str x)) [.lst (ys.map .str)] S = some (.v (.str (Txt.join x ys)), S) := by
  simp only [meRV, rdSeq, rdList, Option.bind, strs_map]
  rw [if_pos h]
theorem me_joinR {ys : List Str} {n : Nat} (hn : S[n]? = some (.lst (ys.map .str))) (h : joinOk x ys = true) : meRV .join (.v (.str x)) [.v (.ref n)] S = some (.v (.str (Txt.join x ys)), S) := by
  simp only [meRV, rdSeq, rdList, hn, Option.bind, strs_map]
  rw [if_pos h]
theorem repl_cons {y z t : Str} {r : List (Str × Str)} (h : replAll r x = some t) (ok : replOk t y z = true) : replAll ((y, z) :: r) x = some (Txt.replace t y z) := by
  simp only [replAll, h]
  rw [if_pos ok]
end
end Deep
namespace Deep
open PySem
section
variable {S : Store} {a : Int} {xs : List PV} {n : Nat}
theorem bi_int : biRV .int [.v (.int a)] S = some (.v (.int a)) := rfl
theorem bi_lenT : biRV .len [.v (.tup xs)] S = some (.v (.int xs.length)) := rfl
theorem bi_lenL : biRV .len [.lst xs] S = some (.v (.int xs.length)) := rfl
theorem bi_lenR : biRV .len [.v (.ref n)] S = (rdSeq (.v (.ref n)) S).map fun xs => .v (.int xs.length) := rfl
theorem bi_tupL : biRV .tuple [.lst xs] S = some (.v (.tup xs)) := rfl
theorem bi_tupR : biRV .tuple [.v (.ref n)] S = (rdList (.v (.ref n)) S).map fun xs => .v (.tup xs) := rfl
end
end Deep
namespace Deep
open PySem
theorem isi_int_non {S : Store} : isType "int" (.v (.non)) S = some false := by simp [isType, kindOf, tyNames]
theorem isi_int_bool {b : Bool} {S : Store} : isType "int" (.v (.bool b)) S = some true := by simp [isType, kindOf, tyNames]
theorem isi_int_int {i : Int} {S : Store} : isType "int" (.v (.int i)) S = some true := by simp [isType, kindOf, tyNames]
theorem isi_int_str {z : Str} {S : Store} : isType "int" (.v (.str z)) S = some false := by simp [isType, kindOf, tyNames]
theorem isi_int_tup {xs : List PV} {S : Store} : isType "int" (.v (.tup xs)) S = some false := by simp [isType, kindOf, tyNames]
theorem isi_bool_non {S : Store} : isType "bool" (.v (.non)) S = some false := by simp [isType, kindOf, tyNames]
theorem isi_bool_bool {b : Bool} {S : Store} : isType "bool" (.v (.bool b)) S = some true := by simp [isType, kindOf, tyNames]
theorem isi_bool_int {i : Int} {S : Store} : isType "bool" (.v (.int i)) S = some false := by simp [isType, kindOf, tyNames]
theorem isi_bool_str {z : Str} {S : Store} : isType "bool" (.v (.str z)) S = some false := by simp [isType, kindOf, tyNames]
theorem isi_bool_tup {xs : List PV} {S : Store} : isType "bool" (.v (.tup xs)) S = some false := by simp [isType, kindOf, tyNames]
theorem isi_str_non {S : Store} : isType "str" (.v (.non)) S = some false := by simp [isType, kindOf, tyNames]
theorem isi_str_bool {b : Bool} {S : Store} : isType "str" (.v (.bool b)) S = some false := by simp [isType, kindOf, tyNames]
theorem isi_str_int {i : Int} {S : Store} : isType "str" (.v (.int i)) S = some false := by simp [isType, kindOf, tyNames]
theorem isi_str_str {z : Str} {S : Store} : isType "str" (.v (.str z)) S = some true := by simp [isType, kindOf, tyNames]
theorem isi_str_tup {xs : List PV} {S : Store} : isType "str" (.v (.tup xs)) S = some false := by simp [isType, kindOf, tyNames]
theorem isi_tuple_non {S : Store} : isType "tuple" (.v (.non)) S = some false := by simp [isType, kindOf, tyNames]
theorem isi_tuple_bool {b : Bool} {S : Store} : isType "tuple" (.v (.bool b)) S = some false := by simp [isType, kindOf, tyNames]
theorem isi_tuple_int {i : Int} {S : Store} : isType "tuple" (.v (.int i)) S = some false := by simp [isType, kindOf, tyNames]
theorem isi_tuple_str {z : Str} {S : Store} : isType "tuple" (.v (.str z)) S = some false := by simp [isType, kindOf, tyNames]
theorem isi_tuple_tup {xs : List PV} {S : Store} : isType "tuple" (.v (.tup xs)) S = some true := by simp [isType, kindOf, tyNames]
theorem isi_list_non {S : Store} : isType "list" (.v (.non)) S = some false := by simp [isType, kindOf, tyNames]
theorem isi_list_bool {b : Bool} {S : Store} : isType "list" (.v (.bool b)) S = some false := by simp [isType, kindOf, tyNames]
theorem isi_list_int {i : Int} {S : Store} : isType "list" (.v (.int i)) S = some false := by simp [isType, kindOf, tyNames]
theorem isi_list_str {z : Str} {S : Store} : isType "list" (.v (.str z)) S = some false := by simp [isType, kindOf, tyNames]
theorem isi_list_tup {xs : List PV} {S : Store} : isType "list" (.v (.tup xs)) S = some false := by simp [isType, kindOf, tyNames]
theorem isi_dict_non {S : Store} : isType "dict" (.v (.non)) S = some false := by simp [isType, kindOf, tyNames]
theorem isi_dict_bool {b : Bool} {S : Store} : isType "dict" (.v (.bool b)) S = some false := by simp [isType, kindOf, tyNames]
theorem isi_dict_int {i : Int} {S : Store} : isType "dict" (.v (.int i)) S = some false := by simp [isType, kindOf, tyNames]
theorem isi_dict_str {z : Str} {S : Store} : isType "dict" (.v (.str z)) S = some false := by simp [isType, kindOf, tyNames]
theorem isi_dict_tup {xs : List PV} {S : Store} : isType "dict" (.v (.tup xs)) S = some false := by simp [isType, kindOf, tyNames]
theorem isn_non : isRV (.v (.non)) (.v .non) = some true := rfl
theorem isn_bool {b : Bool} : isRV (.v (.bool b)) (.v .non) = some false := rfl
theorem isn_int {i : Int} : isRV (.v (.int i)) (.v .non) = some false := rfl
theorem isn_str {z : Str} : isRV (.v (.str z)) (.v .non) = some false := rfl
theorem isn_tup {xs : List PV} : isRV (.v (.tup xs)) (.v .non) = some false := rfl
theorem isb_true_non : isRV (.v (.non)) (.v (.bool true)) = some false := rfl
theorem isb_true_int {i : Int} : isRV (.v (.int i)) (.v (.bool true)) = some false := rfl
theorem isb_true_str {z : Str} : isRV (.v (.str z)) (.v (.bool true)) = some false := rfl
theorem isb_true_tup {xs : List PV} : isRV (.v (.tup xs)) (.v (.bool true)) = some false := rfl
theorem isb_true_true : isRV (.v (.bool true)) (.v (.bool true)) = some true := rfl
theorem isb_true_false : isRV (.v (.bool false)) (.v (.bool true)) = some false := rfl
theorem isb_false_non : isRV (.v (.non)) (.v (.bool false)) = some false := rfl
theorem isb_false_int {i : Int} : isRV (.v (.int i)) (.v (.bool false)) = some false := rfl
theorem isb_false_str {z : Str} : isRV (.v (.str z)) (.v (.bool false)) = some false := rfl
theorem isb_false_tup {xs : List PV} : isRV (.v (.tup xs)) (.v (.bool false)) = some false := rfl
theorem isb_false_true : isRV (.v (.bool true)) (.v (.bool false)) = some false := rfl
theorem isb_false_false : isRV (.v (.bool false)) (.v (.bool false)) = some true := rfl
end Deep

set_option Elab.async false
set_option linter.all false
set_option maxRecDepth 100000
set_option maxHeartbeats 8000000
/-! The deep layer, 13: loops. -/
namespace Deep
open PySem PySem.Spec PyProof.Rows L2
theorem for_rule {g : Guard} {bnd : PV → PEnv → Store → Option (PEnv × Store)} {body : PEnv → Store → SR} (I : List PV → PEnv → Store → Prop) (Post : SR → Prop)
    (step : ∀ x xs env S, I (x :: xs) env S → g.ok S = true ∧ ∃ e S1, bnd x env S = some (e, S1) ∧ (match body e S1 with
      | .nx e2 S2 => I xs e2 S2
      | .ct e2 S2 => I xs e2 S2
      | .bk e2 S2 => Post (.nx e2 S2)
      | r => Post r))
    (fin : ∀ env S, I [] env S → g.ok S = true ∧ Post (.nx env S)) : ∀ xs env S, I xs env S → Post (forLoop g bnd body xs env S)
  | [], env, S, h => by
    obtain ⟨h1, h2⟩ := fin env S h
    simp only [forLoop, h1, if_true]
    exact h2
  | x :: xs, env, S, h => by
    obtain ⟨h1, e, S1, h2, h3⟩ := step x xs env S h
    simp only [forLoop, h1, if_true, h2]
    cases hb : body e S1 with
    | nx e2 S2 => rw [hb] at h3; exact for_rule I Post step fin xs e2 S2 h3
    | ct e2 S2 => rw [hb] at h3; exact for_rule I Post step fin xs e2 S2 h3
    | bk e2 S2 => rw [hb] at h3; exact h3
    | rt r S2 => rw [hb] at h3; exact h3
    | ex x e2 S2 => rw [hb] at h3; exact h3
    | stuck => rw [hb] at h3; exact h3
theorem while_rule {c : PEnv → Store → Res Bool} {body : PEnv → Store → SR} (I : Nat → PEnv → Store → Prop) (Post : SR → Prop)
    (step : ∀ n env S, I n env S → (∃ S1, c env S = .ok false S1 ∧ Post (.nx env S1)) ∨ ∃ S1, c env S = .ok true S1 ∧ (match body env S1 with
      | .nx e2 S2 => ∃ m, m < n ∧ I m e2 S2
      | .ct e2 S2 => ∃ m, m < n ∧ I m e2 S2
      | .bk e2 S2 => Post (.nx e2 S2)
      | r => Post r)) : ∀ fuel n env S, n < fuel → I n env S → Post (whileN c body fuel env S)
  | 0, _, _, _, hn, _ => absurd hn (Nat.not_lt_zero _)
  | fuel + 1, n, env, S, hn, h => by
    rcases step n env S h with ⟨S1, h1, h2⟩ | ⟨S1, h1, h2⟩
    · simp only [whileN, h1]
      exact h2
    · simp only [whileN, h1]
      cases hb : body env S1 with
      | nx e2 S2 => rw [hb] at h2; obtain ⟨m, hm, h3⟩ := h2; exact while_rule I Post step fuel m e2 S2 (by omega) h3
      | ct e2 S2 => rw [hb] at h2; obtain ⟨m, hm, h3⟩ := h2; exact while_rule I Post step fuel m e2 S2 (by omega) h3
      | bk e2 S2 => rw [hb] at h2; exact h2
      | rt r S2 => rw [hb] at h2; exact h2
      | ex x e2 S2 => rw [hb] at h2; exact h2
      | stuck => rw [hb] at h2; exact h2
theorem lc_rule {g : Guard} {step : PV → Store → Res (Option RV)} (I : List PV → List PV → Store → Prop)
    (st : ∀ x xs acc S, I (x :: xs) acc S → g.ok S = true ∧ ((∃ S', step x S = .ok none S' ∧ I xs acc S') ∨ ∃ r S', step x S = .ok (some r) S' ∧ acc.length < sizeLine ∧ I xs (acc ++ [(settle r S').1]) (settle r S').2))
    (fin : ∀ acc S, I [] acc S → g.ok S = true) : ∀ xs acc S, I xs acc S → ∃ acc' S', lcLoop g step xs acc S = .ok acc' S' ∧ I [] acc' S'
  | [], acc, S, h => by
    have h1 := fin acc S h
    exact ⟨acc, S, by simp only [lcLoop, h1, if_true], h⟩
  | x :: xs, acc, S, h => by
    obtain ⟨h1, h2⟩ := st x xs acc S h
    rcases h2 with ⟨S', h2, h3⟩ | ⟨r, S', h2, h3, h4⟩
    · obtain ⟨a, b, h5, h6⟩ := lc_rule I st fin xs acc S' h3
      exact ⟨a, b, by simp only [lcLoop, h1, if_true, h2]; exact h5, h6⟩
    · obtain ⟨a, b, h5, h6⟩ := lc_rule I st fin xs _ _ h4
      exact ⟨a, b, by simp only [lcLoop, h1, if_true, h2, h3]; exact h5, h6⟩
/-- a comprehension of settled values that changes nothing -/
theorem lc_pure {g : Guard} {step : PV → Store → Res (Option RV)} {S : Store} {f : PV → PV} (hg : g.ok S = true) : ∀ (xs acc : List PV), (∀ x ∈ xs, step x S = .ok (some (.v (f x))) S) → acc.length + xs.length ≤ sizeLine →
    lcLoop g step xs acc S = .ok (acc ++ xs.map f) S
  | [], acc, _, _ => by simp only [lcLoop, hg, if_true, List.map_nil, List.append_nil]
  | x :: xs, acc, h, hl => by
    have hx := h x List.mem_cons_self
    have hl' : acc.length < sizeLine := by simp at hl; omega
    have ih := lc_pure hg xs (acc ++ [f x]) (fun y hy => h y (List.mem_cons_of_mem _ hy)) (by simp at hl ⊢; omega)
    simp only [lcLoop, hg, if_true, hx, hl', settle]
    rw [ih]
    simp
/-! ### indices -/
theorem ixN_nat {n i : Nat} (h : i < n) : ixN n (i : Int) = some i := by
  unfold ixN
  simp [h]
theorem atI_nat {α : Type} {xs : List α} {i : Nat} (h : i < xs.length) : atI xs (i : Int) = some xs[i] := by
  unfold atI
  rw [ixN_nat h]
  simp [h]
theorem range_length (i j : Int) : (rangeItems i j).length = (j - i).toNat := by simp [rangeItems]
theorem range_get {i j : Int} {n : Nat} (h : n < (j - i).toNat) : (rangeItems i j)[n]? = some (.int (i + n)) := by
  simp [rangeItems, h]
theorem range_mem {i j : Int} {x : PV} (h : x ∈ rangeItems i j) : ∃ k : Nat, k < (j - i).toNat ∧ x = .int (i + k) := by
  simp [rangeItems] at h
  obtain ⟨k, hk, e⟩ := h
  exact ⟨k, by omega, e.symm⟩
end Deep
namespace Deep
open PySem
theorem sz0 : (0 ≤ sizeLine) = True := eq_true (by decide)
theorem sz1 : (1 ≤ sizeLine) = True := eq_true (by decide)
theorem sz2 : (2 ≤ sizeLine) = True := eq_true (by decide)
theorem sz3 : (3 ≤ sizeLine) = True := eq_true (by decide)
theorem sz4 : (4 ≤ sizeLine) = True := eq_true (by decide)
theorem sz5 : (5 ≤ sizeLine) = True := eq_true (by decide)
theorem sz6 : (6 ≤ sizeLine) = True := eq_true (by decide)
theorem szl : sizeLine = 16777216 := by decide
end Deep
namespace Deep
open PySem
theorem lc_eval {P : Par} {elt : E} {tg : Tg} {it : It} {cond : Pt} {own : List Nat} {env : PEnv} {S S1 : Store} {xs : List PV} {g : Guard} (hI : evalI P it env S = .ok (xs, g) S1) (I : List PV → List PV → Store → Prop)
    (st : ∀ x xs acc S2, I (x :: xs) acc S2 → g.ok S2 = true ∧ ∃ e S3, bindT tg (.v x) (forget env own) S2 = some (e, S3) ∧ ((∃ S4, evalC P cond e S3 = .ok false S4 ∧ I xs acc S4) ∨
      ∃ S4 r S5, evalC P cond e S3 = .ok true S4 ∧ evalE P elt e S4 = .ok r S5 ∧ acc.length < sizeLine ∧ I xs (acc ++ [(settle r S5).1]) (settle r S5).2))
    (fin : ∀ acc S, I [] acc S → g.ok S = true) (h0 : I xs [] S1) : ∃ acc S', evalE P (.lc elt tg it cond own) env S = .ok (.lst acc) S' ∧ I [] acc S' := by
  simp only [evalE, hI, bind_ok]
  have key := lc_rule (g := g) (step := fun x S2 => match bindT tg (.v x) (forget env own) S2 with
      | some (e, S3) => (evalC P cond e S3).bind fun k S4 => if k then (evalE P elt e S4).bind fun r S5 => .ok (some r) S5 else .ok none S4
      | none => .stuck) I (fun x ys acc S2 h => ?_) fin xs [] S1 h0
  · obtain ⟨acc, S', e, h⟩ := key
    exact ⟨acc, S', congrArg (fun r : Res (List PV) => r.bind fun xs S2 => Res.ok (RV.lst xs) S2) e, h⟩
  · obtain ⟨h1, e, S3, h2, h3⟩ := st x ys acc S2 h
    refine ⟨h1, ?_⟩
    rcases h3 with ⟨S4, h3, h4⟩ | ⟨S4, r, S5, h3, h4, h5, h6⟩
    · exact .inl ⟨S4, by simp only [h2, h3, bind_ok, Bool.false_eq_true, if_false], h4⟩
    · exact .inr ⟨r, S5, by simp only [h2, h3, h4, bind_ok, if_true], h5, h6⟩
theorem lc_evalP {P : Par} {elt : E} {tg : Tg} {it : It} {cond : Pt} {own : List Nat} {env : PEnv} {S S1 : Store} {xs : List PV} {g : Guard} (f : PV → PV) (hI : evalI P it env S = .ok (xs, g) S1) (hg : g.ok S1 = true)
    (h : ∀ x ∈ xs, ∃ e, bindT tg (.v x) (forget env own) S1 = some (e, S1) ∧ evalC P cond e S1 = .ok true S1 ∧ evalE P elt e S1 = .ok (.v (f x)) S1) (hl : xs.length ≤ sizeLine) :
    evalE P (.lc elt tg it cond own) env S = .ok (.lst (xs.map f)) S1 := by
  simp only [evalE, hI, bind_ok]
  have key := lc_pure (g := g) (step := fun x S2 => match bindT tg (.v x) (forget env own) S2 with
      | some (e, S3) => (evalC P cond e S3).bind fun k S4 => if k then (evalE P elt e S4).bind fun r S5 => .ok (some r) S5 else .ok none S4
      | none => .stuck) (S := S1) (f := f) hg xs [] (fun x hx => ?_) (by simpa using hl)
  · exact congrArg (fun r : Res (List PV) => r.bind fun xs S2 => Res.ok (RV.lst xs) S2) key
  · obtain ⟨e, h1, h2, h3⟩ := h x hx
    simp only [h1, h2, h3, bind_ok, if_true]
theorem for_eval {P : Par} {t : Tg} {it : It} {b : Bk} {env : PEnv} {S S1 : Store} {xs : List PV} {g : Guard} (hI : evalI P it env S = .ok (xs, g) S1) (I : List PV → PEnv → Store → Prop) (Post : SR → Prop)
    (step : ∀ x xs env S, I (x :: xs) env S → g.ok S = true ∧ ∃ e S1, bindT t (.v x) env S = some (e, S1) ∧ (match evalB P b e S1 with
      | .nx e2 S2 => I xs e2 S2
      | .ct e2 S2 => I xs e2 S2
      | .bk e2 S2 => Post (.nx e2 S2)
      | r => Post r))
    (fin : ∀ env S, I [] env S → g.ok S = true ∧ Post (.nx env S)) (h0 : I xs env S1) : Post (evalS P (.forS t it b) env S) := by
  simp only [evalS, hI, st_ok]
  exact for_rule (bnd := fun x e S2 => bindT t (.v x) e S2) I Post step fin xs env S1 h0
theorem while_eval {P : Par} {c : E} {b : Bk} {env : PEnv} {S : Store} (I : Nat → PEnv → Store → Prop) (Post : SR → Prop)
    (step : ∀ n env S, I n env S → (∃ S1, evalT P c env S = .ok false S1 ∧ Post (.nx env S1)) ∨ ∃ S1, evalT P c env S = .ok true S1 ∧ (match evalB P b env S1 with
      | .nx e2 S2 => ∃ m, m < n ∧ I m e2 S2
      | .ct e2 S2 => ∃ m, m < n ∧ I m e2 S2
      | .bk e2 S2 => Post (.nx e2 S2)
      | r => Post r)) (n : Nat) (hn : n < P.fuel) (h0 : I n env S) : Post (evalS P (.whileS c b) env S) := by
  rw [evalS]
  exact while_rule I Post step P.fuel n env S hn h0
end Deep
namespace Deep
open PySem
theorem atI_mem {α : Type} {xs : List α} {i : Int} (h0 : 0 ≤ i) (h1 : i < xs.length) : ∃ x, L2.atI xs i = some x ∧ x ∈ xs := by
  obtain ⟨j, rfl⟩ := Int.eq_ofNat_of_zero_le h0
  have hj : j < xs.length := by omega
  exact ⟨xs[j], atI_nat hj, List.getElem_mem hj⟩
end Deep

set_option Elab.async false
set_option linter.all false
set_option maxRecDepth 100000
set_option maxHeartbeats 8000000
/-! The deep layer, 14: texts. -/
namespace Deep
open PySem PySem.Spec PyProof.Rows L2 PySem.StrLaws TL PySem.NumText
theorem repl1 {c : Nat} {z : List Nat} : ∀ l : List Nat, replL [c] z l = l.flatMap fun a => if a = c then z else [a]
  | [] => replL_nil
  | a :: l => by
    by_cases h : a = c
    · subst h
      rw [replL_hit (by simp) (by simp)]
      simp [repl1 l]
    · rw [replL_miss (by simpa using h), repl1 l]
      simp [h]
theorem tl_replace1 {x y z : Str} {c : Nat} (hy : tl y = [c]) : tl (Txt.replace x y z) = (tl x).flatMap fun a => if a = c then tl z else [a] := by
  have hl : 1 ≤ y.length := by rw [len_tl, hy]; exact Nat.le_refl _
  show (Txt.replace x y z).cps.toList = _
  rw [replace_list hl]
  show replL (tl y) (tl z) (tl x) = _
  rw [hy, repl1]
theorem tl_cut {z : Str} {i j : Nat} (h : i ≤ j) : tl (cutS z (some (i : Int)) (some (j : Int))) = ((tl z).drop i).take (j - i) := by
  unfold cutS
  rw [HT.sIx_nat, HT.sIx_nat]
  show (List.take _ (List.drop _ (tl z))) = _
  have e : z.length = (tl z).length := len_tl z
  rw [e]
  generalize tl z = l
  by_cases h1 : i ≤ l.length
  · rw [Nat.min_eq_left h1]
    by_cases h2 : j ≤ l.length
    · rw [Nat.min_eq_left h2]
    · rw [Nat.min_eq_right (by omega)]
      rw [List.take_of_length_le (by rw [List.length_drop]; omega), List.take_of_length_le (by rw [List.length_drop]; omega)]
  · rw [Nat.min_eq_right (show l.length ≤ i by omega), List.drop_eq_nil_of_le (Nat.le_refl _), List.drop_eq_nil_of_le (show l.length ≤ i by omega), List.take_nil, List.take_nil]
theorem cut_hit {z : Str} {A R : List Nat} {c : Nat} (h : tl z = A ++ c :: R) : cutS z (some (A.length : Int)) (some ((A.length : Int) + 1)) = ⟨#[c]⟩ := by
  apply ext_tl
  have := tl_cut (z := z) (i := A.length) (j := A.length + 1) (by omega)
  rw [show (((A.length + 1 : Nat)) : Int) = (A.length : Int) + 1 from rfl] at this
  rw [this, h]
  simp
theorem cut_end {z : Str} {A : List Nat} (h : tl z = A) : cutS z (some (A.length : Int)) (some ((A.length : Int) + 1)) = Str.empty := by
  apply ext_tl
  have := tl_cut (z := z) (i := A.length) (j := A.length + 1) (by omega)
  rw [show (((A.length + 1 : Nat)) : Int) = (A.length : Int) + 1 from rfl] at this
  rw [this, h]
  simp
  rfl
theorem cut_mid {z : Str} {A B R : List Nat} (h : tl z = A ++ (B ++ R)) : tl (cutS z (some (A.length : Int)) (some ((A.length + B.length : Nat) : Int))) = B := by
  rw [tl_cut (by omega), h]
  simp
/-! ### find -/
theorem fromIndex_nat (n i : Nat) : fromIndex n (i : Int) = i := by
  unfold fromIndex
  have : ¬ (i : Int) < 0 := by omega
  rw [if_neg this]
  omega
theorem toIndexW_nat (n i : Nat) : toIndexW n (i : Int) = min i n := by
  unfold toIndexW
  have : ¬ (i : Int) < 0 := by omega
  rw [if_neg this]
  omega
theorem occ_head_in (x y : Str) (lo hi limit : Nat) (hl : 1 ≤ limit) :
    (Builtin.Str.occurrences x y lo hi limit = [] ∧ ∀ i, lo ≤ i → i ≤ hi → ¬ At x y hi i) ∨
    ∃ i r, Builtin.Str.occurrences x y lo hi limit = i :: r ∧ lo ≤ i ∧ At x y hi i ∧ ∀ k, lo ≤ k → k < i → ¬ At x y hi k := by
  rw [occ_eq]
  rcases occ_first x y hi limit hl (List.range' lo (hi + 1 - lo)) lo (fun i hi => (List.mem_range'_1.mp hi).1) with ⟨h0, hn⟩ | ⟨p, a, q, e, h0, ha, hn⟩
  · exact .inl ⟨by rw [h0], fun i h1 h2 h3 => hn i (by rw [List.mem_range'_1]; omega) h3⟩
  · have hs := range'_split_from e
    refine .inr ⟨a, ((forIn (List.range' lo (hi + 1 - lo)) ((#[] : Array Nat), lo) (occBody x y hi limit)).run.fst.toList).tail, ?_, hs.1, ha, fun k h1 h2 => hn k (hs.2 k h1 h2)⟩
    generalize (forIn (List.range' lo (hi + 1 - lo)) ((#[] : Array Nat), lo) (occBody x y hi limit)).run.fst = arr at h0
    have h1 : arr.toList[0]? = some a := by simpa using h0
    cases hL : arr.toList with
    | nil => rw [hL] at h1; cases h1
    | cons b t => rw [hL] at h1; simp at h1; rw [h1]; rfl
theorem at_one {x y : Str} {c hi k : Nat} (hy : tl y = [c]) : At x y hi k ↔ k < hi ∧ (tl x)[k]? = some c := by
  have ey : y = ⟨#[c]⟩ := ext_tl hy
  subst ey
  constructor
  · intro h
    refine ⟨?_, ?_⟩
    · have := h.1
      have e : (⟨#[c]⟩ : Str).length = 1 := rfl
      omega
    · have h2 := h.2
      rw [subAt_eq] at h2
      have := beq_iff_eq.mp h2
      have e : (List.take 1 (List.drop k (tl x))) = [c] := this
      have e2 : (List.take 1 (List.drop k (tl x)))[0]? = some c := by rw [e]; rfl
      simpa [List.getElem?_take, List.getElem?_drop] using e2
  · rintro ⟨h1, h2⟩
    refine ⟨?_, ?_⟩
    · have e : (⟨#[c]⟩ : Str).length = 1 := rfl
      omega
    · rw [subAt_eq]
      apply beq_iff_eq.mpr
      show (List.take 1 (List.drop k (tl x))) = [c]
      obtain ⟨h3, h4⟩ := List.getElem?_eq_some_iff.mp h2
      rw [List.drop_eq_getElem_cons h3, h4]
      rfl
theorem find3_hit {x y : Str} {c : Nat} {A B R : List Nat} (hy : tl y = [c]) (h : tl x = A ++ (B ++ c :: R)) (hB : c ∉ B) : Txt.find3 x y (A.length : Int) = ((A.length + B.length : Nat) : Int) := by
  unfold Txt.find3
  rw [fromIndex_nat]
  have hx : x.length = (tl x).length := len_tl x
  have at' : (tl x)[A.length + B.length]? = some c := by rw [h]; simp
  have no : ∀ k, A.length ≤ k → k < A.length + B.length → (tl x)[k]? ≠ some c := fun k h1 h2 e => by
    rw [h, List.getElem?_append_right h1, List.getElem?_append_left (by omega)] at e
    exact hB (List.mem_of_getElem? e)
  rcases occ_head_in x y A.length x.length 1 (Nat.le_refl 1) with ⟨_, hn⟩ | ⟨i, r, e, h1, h2, h3⟩
  · have hlt := (List.getElem?_eq_some_iff.mp at').1
    exact absurd ((at_one hy).mpr ⟨by omega, at'⟩) (hn (A.length + B.length) (by omega) (by omega))
  · rw [e]
    obtain ⟨i1, i2⟩ := (at_one hy).mp h2
    rcases Nat.lt_trichotomy i (A.length + B.length) with z | z | z
    · exact absurd i2 (no i h1 z)
    · rw [z]
    · have hlt := (List.getElem?_eq_some_iff.mp at').1
      exact absurd ((at_one hy).mpr ⟨by omega, at'⟩) (h3 _ (by omega) z)
theorem findIn_hit {x y : Str} {c hi : Nat} {A B R : List Nat} (hy : tl y = [c]) (h : tl x = A ++ (B ++ c :: R)) (hB : c ∉ B) (hh : A.length + B.length < hi) (hl : hi ≤ x.length) : Txt.findIn x y (A.length : Int) (hi : Int) = ((A.length + B.length : Nat) : Int) := by
  unfold Txt.findIn
  rw [fromIndex_nat, toIndexW_nat, Nat.min_eq_left hl]
  have hx : x.length = (tl x).length := len_tl x
  have at' : (tl x)[A.length + B.length]? = some c := by rw [h]; simp
  have no : ∀ k, A.length ≤ k → k < A.length + B.length → (tl x)[k]? ≠ some c := fun k h1 h2 e => by
    rw [h, List.getElem?_append_right h1, List.getElem?_append_left (by omega)] at e
    exact hB (List.mem_of_getElem? e)
  rcases occ_head_in x y A.length hi 1 (Nat.le_refl 1) with ⟨_, hn⟩ | ⟨i, r, e, h1, h2, h3⟩
  · exact absurd ((at_one hy).mpr ⟨hh, at'⟩) (hn (A.length + B.length) (by omega) (by omega))
  · rw [e]
    obtain ⟨i1, i2⟩ := (at_one hy).mp h2
    rcases Nat.lt_trichotomy i (A.length + B.length) with z | z | z
    · exact absurd i2 (no i h1 z)
    · rw [z]
    · exact absurd ((at_one hy).mpr ⟨hh, at'⟩) (h3 _ (by omega) z)
theorem findIn_miss {x y : Str} {c : Nat} {A B R : List Nat} (hy : tl y = [c]) (h : tl x = A ++ (B ++ R)) (hB : c ∉ B) : Txt.findIn x y (A.length : Int) ((A.length + B.length : Nat) : Int) = -1 := by
  unfold Txt.findIn
  have hx : x.length = (tl x).length := len_tl x
  have hl : A.length + B.length ≤ x.length := by rw [hx, h]; simp
  rw [fromIndex_nat, toIndexW_nat, Nat.min_eq_left hl]
  rcases occ_head_in x y A.length (A.length + B.length) 1 (Nat.le_refl 1) with ⟨e, hn⟩ | ⟨i, r, e, h1, h2, h3⟩
  · rw [e]
  · obtain ⟨i1, i2⟩ := (at_one hy).mp h2
    rw [h, List.getElem?_append_right h1, List.getElem?_append_left (by omega)] at i2
    exact absurd (List.mem_of_getElem? i2) hB
/-! ### numbers -/
def intL : Int → List Nat
  | .ofNat n => numL n
  | .negSucc n => 45 :: numL (n + 1)
theorem tl_int : ∀ i : Int, tl (Str.ofString (toString i)) = intL i
  | .ofNat n => tl_num n
  | .negSucc n => by
    have e : toString (Int.negSucc n) = "-" ++ toString (n + 1) := rfl
    rw [e, tl_ofString, String.toList_append, List.map_append]
    have := tl_num (n + 1)
    rw [tl_ofString] at this
    show [45] ++ _ = 45 :: _
    rw [← this]
    rfl
theorem numL_head : ∀ n : Nat, 0 < n → ∃ d r, numL n = d :: r ∧ 48 < d ∧ d ≤ 57 := by
  intro n
  induction n using Nat.strongRecOn with
  | _ n ih =>
    intro h
    by_cases h10 : n < 10
    · exact ⟨48 + n, [], numL_lt h10, by omega, by omega⟩
    · obtain ⟨d, r, e, h1, h2⟩ := ih (n / 10) (by omega) (by omega)
      exact ⟨d, r ++ [48 + n % 10], by rw [numL_step (by omega), e]; rfl, h1, h2⟩
theorem intL_len {i : Int} {k : Nat} (hk : 0 < k) (h : i.natAbs < 10 ^ k) : (intL i).length ≤ k + 1 := by
  cases i with
  | ofNat n =>
    have := numL_len hk (show n < 10 ^ k from h)
    show (numL n).length ≤ _
    omega
  | negSucc n =>
    have := numL_len hk (show n + 1 < 10 ^ k from h)
    show (45 :: numL (n + 1)).length ≤ _
    simp
    omega
theorem int_back {x : Str} {i : Int} (h : tl x = intL i) (hl : (intL i).length ≤ 4300) : intText? x = some i := by
  have e : x.length = (intL i).length := by rw [len_tl, h]
  cases i with
  | ofNat n =>
    have z := intText_digits (x := x) (by rw [show x.cps.toList = numL n from h]; exact numL_digits n) (by rw [show x.cps.toList = numL n from h]; exact numL_ne n) (by rw [e]; exact hl)
    rw [show x.cps.toList = numL n from h, numL_val] at z
    exact z
  | negSucc n =>
    have z := intText_neg (x := x) (cs := numL (n + 1)) h (numL_digits _) (numL_ne _) (by rw [e]; exact hl)
    rw [numL_val] at z
    exact z
end Deep

set_option Elab.async false
set_option linter.all false
set_option maxRecDepth 100000
set_option maxHeartbeats 0
namespace Deep
open PySem PySem.Spec PyProof.Rows L2
def top (i : Nat) : Stmt := PySem.Challenge.pw_endhold_k17_plain_there_and_back.main.body.getD i (.Pass ⟨0, 0, 0, 0⟩)
def el_show_plain_1 : E := (.call 498 (.cons (.var 1) .nil))
def lc_show_plain_2 : E := (.lc el_show_plain_1 (.name 1) (.e (.var 0)) .no [1])
def fd_show_plain : FD := ⟨1, 2, (.cons (.ifS (.cmp .is (.var 0) .non)
 (.cons (.ret (.str "N"))
 .nil)
 .nil)
 (.cons (.ifS (.cmp .is (.var 0) (.bool true))
 (.cons (.ret (.str "T"))
 .nil)
 .nil)
 (.cons (.ifS (.cmp .is (.var 0) (.bool false))
 (.cons (.ret (.str "F"))
 .nil)
 .nil)
 (.cons (.ifS (.isi "int" (.var 0))
 (.cons (.ret (.bcall .str (.cons (.var 0) .nil)))
 .nil)
 .nil)
 (.cons (.ifS (.isi "str" (.var 0))
 (.cons (.ret (.call 445 (.cons (.var 0) .nil)))
 .nil)
 .nil)
 (.cons (.ret (.bin .add (.bin .add (.str "(") (.meth .join (.str " ") (.cons lc_show_plain_2 .nil))) (.str ")")))
 .nil))))))⟩
def en_show_plain : Ent := ⟨498, "show_plain", top 7, ["value", "member"], ["value"], fd_show_plain⟩
def fd_quoted : FD := ⟨1, 1, (.cons (.ret (.bin .add (.repl "\"" (.var 0) [("\n", "\\n"), ("\"", "\\\""), ("\\", "\\\\")]) (.str "\"")))
 .nil)⟩
def en_quoted : Ent := ⟨445, "quoted", top 8, ["text"], ["text"], fd_quoted⟩
def fd_read_plain : FD := ⟨1, 3, (.cons (.asg (.tup (.cons (.name 1) (.cons (.name 2) .nil))) (.call 564 (.cons (.var 0) (.cons (.int 0) (.cons (.int 0) .nil)))))
 (.cons (.ifS (.cmp .lt (.var 2) (.bcall .len (.cons (.var 0) .nil)))
 (.cons .never
 .nil)
 .nil)
 (.cons (.ret (.var 1))
 .nil)))⟩
def en_read_plain : Ent := ⟨464, "read_plain", top 9, ["text", "value", "place"], ["text"], fd_read_plain⟩
def fd_value_at : FD := ⟨3, 4, (.cons (.asg (.name 3) (.slc (.var 0) (.e (.var 1)) (.e (.bin .add (.var 1) (.int 1)))))
 (.cons (.ifS (.cmp .eq (.var 3) (.str "N"))
 (.cons (.ret (.tup (.cons .non (.cons (.bin .add (.var 1) (.int 1)) .nil))))
 .nil)
 .nil)
 (.cons (.ifS (.cmp .eq (.var 3) (.str "T"))
 (.cons (.ret (.tup (.cons (.bool true) (.cons (.bin .add (.var 1) (.int 1)) .nil))))
 .nil)
 .nil)
 (.cons (.ifS (.cmp .eq (.var 3) (.str "F"))
 (.cons (.ret (.tup (.cons (.bool false) (.cons (.bin .add (.var 1) (.int 1)) .nil))))
 .nil)
 .nil)
 (.cons (.ifS (.cmp .eq (.var 3) (.str "\""))
 (.cons (.ret (.call 542 (.cons (.var 0) (.cons (.bin .add (.var 1) (.int 1)) .nil))))
 .nil)
 .nil)
 (.cons (.ifS (.cmp .eq (.var 3) (.str "("))
 (.cons (.ifS (.cmp .eq (.var 2) (.glob 14))
 (.cons .never
 .nil)
 .nil)
 (.cons (.ret (.call 553 (.cons (.var 0) (.cons (.bin .add (.var 1) (.int 1)) (.cons (.bin .add (.var 2) (.int 1)) .nil)))))
 .nil))
 .nil)
 (.cons (.ret (.call 325 (.cons (.var 0) (.cons (.var 1) .nil))))
 .nil)))))))⟩
def en_value_at : Ent := ⟨564, "value_at", top 10, ["text", "place", "within", "sign"], ["text", "place", "within"], fd_value_at⟩
def wt_integer_at_1 : E := (.and (.cmp .ne (.slc (.var 0) (.e (.var 4)) (.e (.bin .add (.var 4) (.int 1)))) (.str "")) (.and1 (.cmp .mem (.slc (.var 0) (.e (.var 4)) (.e (.bin .add (.var 4) (.int 1)))) (.glob 7))))
def bd_integer_at_2 : Bk := (.cons (.ifS (.or (.cmp .eq (.var 3) (.str "0")) (.or1 (.cmp .eq (.bin .sub (.var 4) (.var 2)) (.glob 20))))
 (.cons .never
 .nil)
 .nil)
 (.cons (.aug 4 .add (.int 1))
 .nil))
def ws_integer_at_3 : St := (.whileS wt_integer_at_1 bd_integer_at_2)
def fd_integer_at : FD := ⟨2, 5, (.cons (.asg (.name 2) (.ife (.cmp .eq (.slc (.var 0) (.e (.var 1)) (.e (.bin .add (.var 1) (.int 1)))) (.str "-")) (.bin .add (.var 1) (.int 1)) (.var 1)))
 (.cons (.asg (.name 3) (.slc (.var 0) (.e (.var 2)) (.e (.bin .add (.var 2) (.int 1)))))
 (.cons (.ifS (.or (.cmp .eq (.var 3) (.str "")) (.or (.cmp .nmem (.var 3) (.glob 7)) (.or1 (.and (.cmp .eq (.var 3) (.str "0")) (.and1 (.cmp .gt (.var 2) (.var 1)))))))
 (.cons .never
 .nil)
 .nil)
 (.cons (.asg (.name 4) (.bin .add (.var 2) (.int 1)))
 (.cons ws_integer_at_3
 (.cons (.ret (.tup (.cons (.bcall .int (.cons (.slc (.var 0) (.e (.var 1)) (.e (.var 4))) .nil)) (.cons (.var 4) .nil))))
 .nil))))))⟩
def en_integer_at : Ent := ⟨325, "integer_at", top 11, ["text", "place", "begin", "sign", "end"], ["text", "place"], fd_integer_at⟩
def wt_text_at_1 : E := (.bool true)
def bd_text_at_2 : Bk := (.cons (.asg (.name 3) (.meth .find (.var 0) (.cons (.str "\"") (.cons (.var 1) .nil))))
 (.cons (.asg (.name 4) (.ife (.cmp .ge (.var 3) (.int 0)) (.var 3) (.bcall .len (.cons (.var 0) .nil))))
 (.cons (.asg (.name 5) (.meth .find (.var 0) (.cons (.str "\\") (.cons (.var 1) (.cons (.var 4) .nil)))))
 (.cons (.ifS (.cmp .ge (.var 5) (.int 0))
 (.cons (.asg (.name 4) (.var 5))
 .nil)
 .nil)
 (.cons (.asg (.name 6) (.meth .find (.var 0) (.cons (.str "\n") (.cons (.var 1) (.cons (.var 4) .nil)))))
 (.cons (.ifS (.cmp .ge (.var 6) (.int 0))
 (.cons .never
 .nil)
 .nil)
 (.cons (.expr (.meth .append (.var 2) (.cons (.slc (.var 0) (.e (.var 1)) (.e (.var 4))) .nil)))
 (.cons (.ifS (.cmp .eq (.var 4) (.var 3))
 (.cons (.ret (.tup (.cons (.meth .join (.str "") (.cons (.var 2) .nil)) (.cons (.bin .add (.var 4) (.int 1)) .nil))))
 .nil)
 .nil)
 (.cons (.ifS (.cmp .ne (.var 4) (.var 5))
 (.cons .never
 .nil)
 .nil)
 (.cons (.asg (.name 7) (.slc (.var 0) (.e (.bin .add (.var 4) (.int 1))) (.e (.bin .add (.var 4) (.int 2)))))
 (.cons (.ifS (.or (.cmp .nmem (.var 7) (.tup (.cons (.str "\"") (.cons (.str "\\") (.cons (.str "n") .nil))))) (.or1 (.cmp .eq (.var 7) (.str ""))))
 (.cons .never
 .nil)
 .nil)
 (.cons (.expr (.meth .append (.var 2) (.cons (.ife (.cmp .eq (.var 7) (.str "n")) (.str "\n") (.var 7)) .nil)))
 (.cons (.asg (.name 1) (.bin .add (.var 4) (.int 2)))
 .nil)))))))))))))
def ws_text_at_3 : St := (.whileS wt_text_at_1 bd_text_at_2)
def fd_text_at : FD := ⟨2, 8, (.cons (.asg (.name 2) (.lst .nil))
 (.cons ws_text_at_3
 .nil))⟩
def en_text_at : Ent := ⟨542, "text_at", top 12, ["text", "place", "parts", "quote", "end", "slash", "feed", "behind"], ["text", "place"], fd_text_at⟩
def wt_tuple_at_1 : E := (.bool true)
def bd_tuple_at_2 : Bk := (.cons (.asg (.tup (.cons (.name 5) (.cons (.name 1) .nil))) (.call 564 (.cons (.var 0) (.cons (.var 1) (.cons (.var 2) .nil)))))
 (.cons (.expr (.meth .append (.var 3) (.cons (.var 5) .nil)))
 (.cons (.asg (.name 4) (.slc (.var 0) (.e (.var 1)) (.e (.bin .add (.var 1) (.int 1)))))
 (.cons (.ifS (.cmp .eq (.var 4) (.str ")"))
 (.cons (.ret (.tup (.cons (.bcall .tuple (.cons (.var 3) .nil)) (.cons (.bin .add (.var 1) (.int 1)) .nil))))
 .nil)
 .nil)
 (.cons (.ifS (.cmp .ne (.var 4) (.str " "))
 (.cons .never
 .nil)
 .nil)
 (.cons (.aug 1 .add (.int 1))
 .nil))))))
def ws_tuple_at_3 : St := (.whileS wt_tuple_at_1 bd_tuple_at_2)
def fd_tuple_at : FD := ⟨3, 6, (.cons (.ifS (.cmp .eq (.slc (.var 0) (.e (.var 1)) (.e (.bin .add (.var 1) (.int 1)))) (.str ")"))
 (.cons (.ret (.tup (.cons (.tup .nil) (.cons (.bin .add (.var 1) (.int 1)) .nil))))
 .nil)
 .nil)
 (.cons (.asg (.name 3) (.lst .nil))
 (.cons ws_tuple_at_3
 .nil)))⟩
def en_tuple_at : Ent := ⟨553, "tuple_at", top 13, ["text", "place", "within", "members", "sign", "member"], ["text", "place", "within"], fd_tuple_at⟩
def fd__law_cell : FD := ⟨2, 2, (.cons (.ifS (.cmp .lt (.var 1) (.bcall .len (.cons (.var 0) .nil)))
 (.cons (.ret (.ix (.var 0) (.var 1)))
 .nil)
 .nil)
 (.cons (.ret (.int 0))
 .nil))⟩
def en__law_cell : Ent := ⟨23, "_law_cell", top 15, ["script", "k"], ["script", "k"], fd__law_cell⟩
def bd__law_digits_1 : Bk := (.cons (.ifS (.cmp .gt (.var 5) (.int 0))
 (.cons (.expr (.meth .append (.var 3) (.cons (.bin .mod (.bcall .int (.cons (.var 5) .nil)) (.int 1000)) .nil)))
 (.cons (.asg (.name 5) (.bin .fdiv (.var 5) (.int 1000)))
 .nil))
 .nil)
 .nil)
def fs__law_digits_2 : St := (.forS (.name 6) (.rng1 (.int 60)) bd__law_digits_1)
def bd__law_digits_3 : Bk := (.cons (.asg (.name 7) (.bin .mod (.bcall .int (.cons (.bin .add (.bin .add (.bin .mul (.var 7) (.int 16807)) (.bin .mul (.int 7) (.var 6))) (.int 1)) .nil)) (.int 2147483647)))
 (.cons (.expr (.meth .append (.var 3) (.cons (.bin .mod (.bcall .int (.cons (.bin .fdiv (.var 7) (.int 997)) .nil)) (.int 1000)) .nil)))
 .nil))
def fs__law_digits_4 : St := (.forS (.name 6) (.rng1 (.int 12)) bd__law_digits_3)
def bd__law_digits_5 : Bk := (.cons (.ifS (.cmp .gt (.bcall .len (.cons (.var 3) .nil)) (.int 1500))
 (.cons .brk
 .nil)
 .nil)
 (.cons (.asg (.name 5) (.call 23 (.cons (.var 0) (.cons (.var 4) .nil))))
 (.cons (.ifS (.cmp .lt (.var 5) (.int 0))
 (.cons (.asg (.name 5) (.bin .sub (.int 1) (.bin .mul (.int 2) (.var 5))))
 .nil)
 .nil)
 (.cons (.ifS (.cmp .ge (.var 5) (.bin .pow (.int 10) (.int 18)))
 (.cons fs__law_digits_2
 .nil)
 (.cons (.asg (.name 7) (.bin .mod (.bcall .int (.cons (.bin .add (.bin .add (.bin .mul (.var 5) (.int 48271)) (.bin .mul (.var 4) (.int 69621))) (.int 11)) .nil)) (.int 2147483647)))
 (.cons fs__law_digits_4
 .nil)))
 .nil))))
def fs__law_digits_6 : St := (.forS (.name 4) (.rng2 (.var 1) (.var 2)) bd__law_digits_5)
def fd__law_digits : FD := ⟨3, 8, (.cons (.asg (.name 3) (.lst .nil))
 (.cons fs__law_digits_6
 (.cons (.ret (.var 3))
 .nil)))⟩
def en__law_digits : Ent := ⟨39, "_law_digits", top 16, ["script", "first", "last", "digits", "k", "cell", "turn", "seed"], ["script", "first", "last"], fd__law_digits⟩
def fd__law_draw : FD := ⟨2, 3, (.cons (.asg (.name 2) (.ix (.var 0) (.int 1)))
 (.cons (.sub (.var 0) (.int 1) (.bin .add (.var 2) (.int 1)))
 (.cons (.ifS (.cmp .lt (.var 2) (.bcall .len (.cons (.ix (.var 0) (.int 0)) .nil)))
 (.cons (.ret (.bin .mod (.bcall .int (.cons (.ix (.ix (.var 0) (.int 0)) (.var 2)) .nil)) (.var 1)))
 .nil)
 .nil)
 (.cons (.ret (.bin .mod (.bcall .int (.cons (.bin .mul (.var 2) (.int 7)) .nil)) (.var 1)))
 .nil))))⟩
def en__law_draw : Ent := ⟨44, "_law_draw", top 17, ["box", "many", "at"], ["box", "many"], fd__law_draw⟩
def bd__law_same_1 : Bk := (.cons (.ifS (.not (.call 145 (.cons (.ix (.var 0) (.var 2)) (.cons (.ix (.var 1) (.var 2)) .nil))))
 (.cons (.ret (.bool false))
 .nil)
 .nil)
 .nil)
def fs__law_same_2 : St := (.forS (.name 2) (.rng1 (.bcall .len (.cons (.var 1) .nil))) bd__law_same_1)
def fd__law_same : FD := ⟨2, 3, (.cons (.ifS (.isi "tuple" (.var 1))
 (.cons (.ifS (.or (.not (.isi "tuple" (.var 0))) (.or1 (.cmp .ne (.bcall .len (.cons (.var 0) .nil)) (.bcall .len (.cons (.var 1) .nil)))))
 (.cons (.ret (.bool false))
 .nil)
 .nil)
 (.cons fs__law_same_2
 (.cons (.ret (.bool true))
 .nil)))
 .nil)
 (.cons (.ifS (.cmp .is (.var 1) .non)
 (.cons (.ret (.cmp .is (.var 0) .non))
 .nil)
 .nil)
 (.cons (.ifS (.cmp .is (.var 1) (.bool true))
 (.cons (.ret (.cmp .is (.var 0) (.bool true)))
 .nil)
 .nil)
 (.cons (.ifS (.cmp .is (.var 1) (.bool false))
 (.cons (.ret (.cmp .is (.var 0) (.bool false)))
 .nil)
 .nil)
 (.cons (.ifS (.isi "int" (.var 1))
 (.cons (.ret (.and (.isi "int" (.var 0)) (.and (.not (.isi "bool" (.var 0))) (.and1 (.cmp .eq (.var 0) (.var 1))))))
 .nil)
 .nil)
 (.cons (.ret (.and (.isi "str" (.var 0)) (.and1 (.cmp .eq (.var 0) (.var 1)))))
 .nil))))))⟩
def en__law_same : Ent := ⟨145, "_law_same", top 18, ["actual", "due", "k"], ["actual", "due"], fd__law_same⟩
def el__law_plain_1 : E := (.call 123 (.cons (.var 1) .nil))
def lc__law_plain_2 : E := (.lc el__law_plain_1 (.name 1) (.e (.var 0)) .no [1])
def fd__law_plain : FD := ⟨1, 2, (.cons (.ifS (.cmp .is (.var 0) .non)
 (.cons (.ret (.str "N"))
 .nil)
 .nil)
 (.cons (.ifS (.cmp .is (.var 0) (.bool true))
 (.cons (.ret (.str "T"))
 .nil)
 .nil)
 (.cons (.ifS (.cmp .is (.var 0) (.bool false))
 (.cons (.ret (.str "F"))
 .nil)
 .nil)
 (.cons (.ifS (.isi "int" (.var 0))
 (.cons (.ret (.bcall .str (.cons (.var 0) .nil)))
 .nil)
 .nil)
 (.cons (.ifS (.isi "tuple" (.var 0))
 (.cons (.ret (.bin .add (.bin .add (.str "(") (.meth .join (.str " ") (.cons lc__law_plain_2 .nil))) (.str ")")))
 .nil)
 .nil)
 (.cons (.ret (.bin .add (.repl "\"" (.var 0) [("\n", "\\n"), ("\"", "\\\""), ("\\", "\\\\")]) (.str "\"")))
 .nil))))))⟩
def en__law_plain : Ent := ⟨123, "_law_plain", top 19, ["value", "one"], ["value"], fd__law_plain⟩
def el__law_value_1 : E := (.ix (.var 3) (.bin .mod (.bcall .int (.cons (.call 44 (.cons (.var 0) (.cons (.int 900) .nil))) .nil)) (.bcall .len (.cons (.var 3) .nil))))
def lc__law_value_2 : E := (.lc el__law_value_1 (.name 5) (.rng1 (.call 44 (.cons (.var 0) (.cons (.int 9) .nil)))) .no [5])
def el__law_value_3 : E := (.call 194 (.cons (.var 0) (.cons (.bin .sub (.var 1) (.int 1)) .nil)))
def lc__law_value_4 : E := (.lc el__law_value_3 (.name 5) (.rng1 (.call 44 (.cons (.var 0) (.cons (.int 4) .nil)))) .no [5])
def fd__law_value : FD := ⟨2, 6, (.cons (.asg (.name 2) (.call 44 (.cons (.var 0) (.cons (.int 9) .nil))))
 (.cons (.ifS (.and (.cmp .lt (.var 2) (.int 3)) (.and1 (.cmp .gt (.var 1) (.int 0))))
 (.cons (.ret (.bcall .tuple (.cons lc__law_value_4 .nil)))
 .nil)
 .nil)
 (.cons (.ifS (.cmp .eq (.var 2) (.int 3))
 (.cons (.ret (.ix (.lst (.cons .non (.cons (.bool true) (.cons (.bool false) .nil)))) (.call 44 (.cons (.var 0) (.cons (.int 3) .nil)))))
 .nil)
 .nil)
 (.cons (.ifS (.cmp .eq (.var 2) (.int 4))
 (.cons (.asg (.name 4) (.bin .sub (.bin .add (.bin .mul (.call 44 (.cons (.var 0) (.cons (.int 900) .nil))) (.bin .pow (.int 10) (.int 16))) (.call 44 (.cons (.var 0) (.cons (.int 900) .nil)))) (.int 450)))
 (.cons (.ret (.ix (.lst (.cons (.var 4) (.cons (.bin .sub (.int 0) (.var 4)) (.cons (.bin .add (.bin .pow (.int 10) (.int 19)) (.var 4)) (.cons (.int 0) .nil))))) (.call 44 (.cons (.var 0) (.cons (.int 4) .nil)))))
 .nil))
 .nil)
 (.cons (.ifS (.cmp .eq (.var 2) (.int 5))
 (.cons (.ret (.bin .sub (.call 44 (.cons (.var 0) (.cons (.int 30) .nil))) (.int 15)))
 .nil)
 .nil)
 (.cons (.asg (.name 3) (.str " !\"#$&'()*+,-./0189:;<=>?@AZ[\\]^_`az{|}~\nnTFN"))
 (.cons (.ret (.meth .join (.str "") (.cons lc__law_value_2 .nil)))
 .nil)))))))⟩
def en__law_value : Ent := ⟨194, "_law_value", top 20, ["box", "deep", "kind", "signs", "number", "k"], ["box", "deep"], fd__law_value⟩
def bd_law_1 : Bk := (.cons (.asg (.name 3) (.tup (.cons (.var 3) .nil)))
 .nil)
def fs_law_2 : St := (.forS (.name 4) (.rng1 (.ix (.lst (.cons (.int 0) (.cons (.int 0) (.cons (.int 0) (.cons (.int 36) .nil))))) (.call 44 (.cons (.var 1) (.cons (.int 4) .nil))))) bd_law_1)
def bd_law_3 : Bk := (.cons (.asg (.name 3) (.call 194 (.cons (.var 1) (.cons (.int 4) .nil))))
 (.cons fs_law_2
 (.cons (.asg (.name 5) (.call 123 (.cons (.var 3) .nil)))
 (.cons (.ifS (.or (.not (.call 145 (.cons (.call 498 (.cons (.var 3) .nil)) (.cons (.var 5) .nil)))) (.or1 (.not (.call 145 (.cons (.call 464 (.cons (.var 5) .nil)) (.cons (.var 3) .nil))))))
 (.cons (.ret (.bool false))
 .nil)
 .nil)
 .nil))))
def fs_law_4 : St := (.forS (.name 2) (.rng1 (.int 6)) bd_law_3)
def fd_law : FD := ⟨1, 6, (.cons (.asg (.name 1) (.lst (.cons (.call 39 (.cons (.var 0) (.cons (.int 0) (.cons (.int 63) .nil)))) (.cons (.int 0) .nil))))
 (.cons fs_law_4
 (.cons (.ret (.bool true))
 .nil)))⟩
def en_law : Ent := ⟨398, "law", top 21, ["script", "box", "turn", "value", "k", "text"], ["script"], fd_law⟩
def tab0 : List Ent := [en_show_plain, en_quoted, en_read_plain, en_value_at, en_integer_at, en_text_at, en_tuple_at, en__law_cell, en__law_digits, en__law_draw, en__law_same, en__law_plain, en__law_value, en_law]
def tab : List Ent := tab0
def gs : List Glb := [(7, "FIGURES", .str "0123456789"), (14, "MOST_BRACKETS", .int 40), (20, "MOST_FIGURES", .int 2000)]
theorem tab_ok : tab.all (entOk (tabG tab gs)) = true := by decide +kernel
end Deep

set_option Elab.async false
set_option linter.all false
set_option maxRecDepth 100000
set_option maxHeartbeats 4000000
namespace Deep
open PySem PySem.Spec PyProof.Rows L2 PySem.StrLaws TL
section
variable {Pr : Prog} {gl : Nat → Option PV} {fuel : Nat}
theorem cell_ok {k : Nat} (h : Pr 23 = some fd__law_cell) {S : Store} {xs : List Int} (h0 : S[0]? = some (.ro (xs.map .int))) (i : Nat) :
   evalFn Pr gl fuel (k+1) 23 [.ref 0, .int i] S = .ok (.v (.int (xs.getD i 0))) S := by
  rw [call_eq h rfl]
  by_cases hi : i < xs.length
  · have h1 : atI (xs.map PV.int) (i : Int) = some (.int xs[i]) := by rw [atI_nat (by simpa using hi)]; simp
    have h2 : decide ((i : Int) < ((xs.map PV.int).length : Int)) = true := by simpa using hi
    simp only [fd__law_cell, enter, List.map_cons, List.map_nil, List.length_cons, List.length_nil, List.cons_append, List.nil_append, Nat.reduceAdd, Nat.reduceSub, List.replicate, evalB, evalS, evalE, evalT, evalA, evalR, evalO, evalI, evalC, List.getElem?_cons_zero, List.getElem?_cons_succ, List.set_cons_zero, List.set_cons_succ, bind_ok, st_ok, seq_nx, seq_rt, seq_bk, seq_ct, of_some, ofS_some, ofB_some, bi_int, bi_lenT, bi_lenL, bi_lenR, bi_tupL, bi_tupR, bi_lens, bi_str, bi_ints, bin_add, bin_sub, bin_mul, bin_fdiv, bin_mod, bin_adds, bin_addt, bin_pow, Int.reduceLT, Int.reduceLE, Int.reduceAbs, Nat.reduceLT, Nat.reduceLeDiff, cmpRV, rdSeq, rdList, myList, ixRV, sl_str, isi_int_non, isi_int_bool, isi_int_int, isi_int_str, isi_int_tup, isi_bool_non, isi_bool_bool, isi_bool_int, isi_bool_str, isi_bool_tup, isi_str_non, isi_str_bool, isi_str_int, isi_str_str, isi_str_tup, isi_tuple_non, isi_tuple_bool, isi_tuple_int, isi_tuple_str, isi_tuple_tup, isi_list_non, isi_list_bool, isi_list_int, isi_list_str, isi_list_tup, isi_dict_non, isi_dict_bool, isi_dict_int, isi_dict_str, isi_dict_tup, isn_non, isn_bool, isn_int, isn_str, isn_tup, isb_true_non, isb_true_int, isb_true_str, isb_true_tup, isb_true_true, isb_true_false, isb_false_non, isb_false_int, isb_false_str, isb_false_tup, isb_false_true, isb_false_false, truthy, settle, bindT, bindTs, unpk, recv, isLst, isTxt, sz0, sz1, sz2, sz3, sz4, sz5, sz6, Option.map_some, if_true, if_false, Bool.false_eq_true, eqRV_int, Bool.not_true, Bool.not_false, forget, h0, h2, h1, finR, gc_v0 (x := .int _) rfl]
    simp [hi]
  · have h2 : decide ((i : Int) < ((xs.map PV.int).length : Int)) = false := by simpa using hi
    simp only [fd__law_cell, enter, List.map_cons, List.map_nil, List.length_cons, List.length_nil, List.cons_append, List.nil_append, Nat.reduceAdd, Nat.reduceSub, List.replicate, evalB, evalS, evalE, evalT, evalA, evalR, evalO, evalI, evalC, List.getElem?_cons_zero, List.getElem?_cons_succ, List.set_cons_zero, List.set_cons_succ, bind_ok, st_ok, seq_nx, seq_rt, seq_bk, seq_ct, of_some, ofS_some, ofB_some, bi_int, bi_lenT, bi_lenL, bi_lenR, bi_tupL, bi_tupR, bi_lens, bi_str, bi_ints, bin_add, bin_sub, bin_mul, bin_fdiv, bin_mod, bin_adds, bin_addt, bin_pow, Int.reduceLT, Int.reduceLE, Int.reduceAbs, Nat.reduceLT, Nat.reduceLeDiff, cmpRV, rdSeq, rdList, myList, ixRV, sl_str, isi_int_non, isi_int_bool, isi_int_int, isi_int_str, isi_int_tup, isi_bool_non, isi_bool_bool, isi_bool_int, isi_bool_str, isi_bool_tup, isi_str_non, isi_str_bool, isi_str_int, isi_str_str, isi_str_tup, isi_tuple_non, isi_tuple_bool, isi_tuple_int, isi_tuple_str, isi_tuple_tup, isi_list_non, isi_list_bool, isi_list_int, isi_list_str, isi_list_tup, isi_dict_non, isi_dict_bool, isi_dict_int, isi_dict_str, isi_dict_tup, isn_non, isn_bool, isn_int, isn_str, isn_tup, isb_true_non, isb_true_int, isb_true_str, isb_true_tup, isb_true_true, isb_true_false, isb_false_non, isb_false_int, isb_false_str, isb_false_tup, isb_false_true, isb_false_false, truthy, settle, bindT, bindTs, unpk, recv, isLst, isTxt, sz0, sz1, sz2, sz3, sz4, sz5, sz6, Option.map_some, if_true, if_false, Bool.false_eq_true, eqRV_int, Bool.not_true, Bool.not_false, forget, h0, h2, finR, gc_v0 (x := .int _) rfl]
    simp [hi]
def drawV (ds : List Int) (at_ : Nat) (many : Int) : Int := if at_ < ds.length then ds.getD at_ 0 % many else ((at_ : Int) * 7) % many
theorem drawV_ge {ds : List Int} {at_ : Nat} {many : Int} (h : 0 < many) : 0 ≤ drawV ds at_ many ∧ drawV ds at_ many < many := by
  unfold drawV
  split <;> exact ⟨Int.emod_nonneg _ (by omega), Int.emod_lt_of_pos _ h⟩
def boxO (m : Nat) (at_ : Nat) : MO := .lst [.ref m, .int at_]
theorem draw_ok {k : Nat} (h : Pr 44 = some fd__law_draw) {S : Store} {n m at_ : Nat} {ds : List Int} {many : Int} (hn : S[n]? = some (boxO m at_)) (hm : S[m]? = some (.lst (ds.map .int))) (hp : 0 < many) :
   evalFn Pr gl fuel (k+1) 44 [.ref n, .int many] S = .ok (.v (.int (drawV ds at_ many))) (S.set n (boxO m (at_ + 1))) := by
  rw [call_eq h rfl]
  have ne : n ≠ m := fun e => by
    subst e
    rw [hn] at hm
    have := (MO.lst.inj (Option.some.inj hm))
    cases ds with
    | nil => cases this
    | cons d ds => simp at this
  have ln := (List.getElem?_eq_some_iff.mp hn).1
  have lm := (List.getElem?_eq_some_iff.mp hm).1
  have a1 : atI [PV.ref m, PV.int at_] 1 = some (.int at_) := rfl
  have a0 : ∀ i : Int, atI [PV.ref m, PV.int i] 0 = some (.ref m) := fun i => rfl
  have i1 : ixN 2 1 = some 1 := rfl
  have s1 : (S.set n (MO.lst [PV.ref m, PV.int ((at_ : Int) + 1)]))[n]? = some (.lst [.ref m, .int ((at_ : Int) + 1)]) := by simp [ln]
  have s2 : (S.set n (MO.lst [PV.ref m, PV.int ((at_ : Int) + 1)]))[m]? = some (.lst (ds.map .int)) := by rw [List.getElem?_set_ne ne]; exact hm
  have mk : mulOk (at_ : Int) 7 = true := mulOk_r (by decide)
  have und : MO.under S.length (MO.lst [PV.ref m, PV.int ((at_ : Int) + 1)]) = true := by simp [MO.under, PV.underL, PV.under, lm]
  unfold boxO at hn ⊢
  by_cases hi : at_ < ds.length
  · have h2 : decide ((at_ : Int) < ((ds.map PV.int).length : Int)) = true := by simpa using hi
    have h1 : atI (ds.map PV.int) (at_ : Int) = some (.int ds[at_]) := by rw [atI_nat (by simpa using hi)]; simp
    simp only [fd__law_draw, enter, List.map_cons, List.map_nil, List.length_cons, List.length_nil, List.cons_append, List.nil_append, Nat.reduceAdd, Nat.reduceSub, List.replicate, evalB, evalS, evalE, evalT, evalA, evalR, evalO, evalI, evalC, List.getElem?_cons_zero, List.getElem?_cons_succ, List.set_cons_zero, List.set_cons_succ, bind_ok, st_ok, seq_nx, seq_rt, seq_bk, seq_ct, of_some, ofS_some, ofB_some, bi_int, bi_lenT, bi_lenL, bi_lenR, bi_tupL, bi_tupR, bi_lens, bi_str, bi_ints, bin_add, bin_sub, bin_mul, bin_fdiv, bin_mod, bin_adds, bin_addt, bin_pow, Int.reduceLT, Int.reduceLE, Int.reduceAbs, Nat.reduceLT, Nat.reduceLeDiff, cmpRV, rdSeq, rdList, myList, ixRV, sl_str, isi_int_non, isi_int_bool, isi_int_int, isi_int_str, isi_int_tup, isi_bool_non, isi_bool_bool, isi_bool_int, isi_bool_str, isi_bool_tup, isi_str_non, isi_str_bool, isi_str_int, isi_str_str, isi_str_tup, isi_tuple_non, isi_tuple_bool, isi_tuple_int, isi_tuple_str, isi_tuple_tup, isi_list_non, isi_list_bool, isi_list_int, isi_list_str, isi_list_tup, isi_dict_non, isi_dict_bool, isi_dict_int, isi_dict_str, isi_dict_tup, isn_non, isn_bool, isn_int, isn_str, isn_tup, isb_true_non, isb_true_int, isb_true_str, isb_true_tup, isb_true_true, isb_true_false, isb_false_non, isb_false_int, isb_false_str, isb_false_tup, isb_false_true, isb_false_false, truthy, settle, bindT, bindTs, unpk, recv, isLst, isTxt, sz0, sz1, sz2, sz3, sz4, sz5, sz6, Option.map_some, if_true, if_false, Bool.false_eq_true, eqRV_int, Bool.not_true, Bool.not_false, forget, hn, a1, subRV, i1, s1, s2, a0, h2, h1, hp, finR, gc_set0 und (x := .int _) rfl]
    simp [drawV, hi]
  · have h2 : decide ((at_ : Int) < ((ds.map PV.int).length : Int)) = false := by simpa using hi
    simp only [fd__law_draw, enter, List.map_cons, List.map_nil, List.length_cons, List.length_nil, List.cons_append, List.nil_append, Nat.reduceAdd, Nat.reduceSub, List.replicate, evalB, evalS, evalE, evalT, evalA, evalR, evalO, evalI, evalC, List.getElem?_cons_zero, List.getElem?_cons_succ, List.set_cons_zero, List.set_cons_succ, bind_ok, st_ok, seq_nx, seq_rt, seq_bk, seq_ct, of_some, ofS_some, ofB_some, bi_int, bi_lenT, bi_lenL, bi_lenR, bi_tupL, bi_tupR, bi_lens, bi_str, bi_ints, bin_add, bin_sub, bin_mul, bin_fdiv, bin_mod, bin_adds, bin_addt, bin_pow, Int.reduceLT, Int.reduceLE, Int.reduceAbs, Nat.reduceLT, Nat.reduceLeDiff, cmpRV, rdSeq, rdList, myList, ixRV, sl_str, isi_int_non, isi_int_bool, isi_int_int, isi_int_str, isi_int_tup, isi_bool_non, isi_bool_bool, isi_bool_int, isi_bool_str, isi_bool_tup, isi_str_non, isi_str_bool, isi_str_int, isi_str_str, isi_str_tup, isi_tuple_non, isi_tuple_bool, isi_tuple_int, isi_tuple_str, isi_tuple_tup, isi_list_non, isi_list_bool, isi_list_int, isi_list_str, isi_list_tup, isi_dict_non, isi_dict_bool, isi_dict_int, isi_dict_str, isi_dict_tup, isn_non, isn_bool, isn_int, isn_str, isn_tup, isb_true_non, isb_true_int, isb_true_str, isb_true_tup, isb_true_true, isb_true_false, isb_false_non, isb_false_int, isb_false_str, isb_false_tup, isb_false_true, isb_false_false, truthy, settle, bindT, bindTs, unpk, recv, isLst, isTxt, sz0, sz1, sz2, sz3, sz4, sz5, sz6, Option.map_some, if_true, if_false, Bool.false_eq_true, eqRV_int, Bool.not_true, Bool.not_false, forget, hn, a1, subRV, i1, s1, s2, a0, h2, hp, mk, finR, gc_set0 und (x := .int _) rfl]
    simp [drawV, hi]
end
end Deep

set_option Elab.async false
set_option linter.all false
set_option maxRecDepth 100000
set_option maxHeartbeats 400000
namespace Deep
open PySem PySem.Spec PyProof.Rows L2 PySem.StrLaws TL
section
variable {Pr : Prog} {gl : Nat → Option PV} {fuel : Nat}
abbrev digEnv (n : Nat) (k cell : Int) (a b : Option PV) : PEnv := [some (.ref 0), some (.int 0), some (.int 63), some (.ref n), some (.int k), some (.int cell), a, b]
theorem map_snoc (ds : List Int) (d : Int) : (ds.map PV.int) ++ [PV.int d] = (ds ++ [d]).map PV.int := by simp
theorem dig_in1 {P : Par} {S : Store} {ds : List Int} {k cell : Int} {a b : Option PV} (hl : ds.length ≤ 100000) :
    ∃ (ds' : List Int) (cell' : Int) (a' : Option PV), evalS P fs__law_digits_2 (digEnv S.length k cell a b) (S ++ [.lst (ds.map .int)]) = .nx (digEnv S.length k cell' a' b) (S ++ [.lst (ds'.map .int)]) ∧ ds'.length ≤ ds.length + 60 := by
  have hr : inRange 60 = true := by decide
  simp only [fs__law_digits_2, enter, List.map_cons, List.map_nil, List.length_cons, List.length_nil, List.cons_append, List.nil_append, Nat.reduceAdd, Nat.reduceSub, List.replicate, evalB, evalS, evalE, evalT, evalA, evalR, evalO, evalI, evalC, List.getElem?_cons_zero, List.getElem?_cons_succ, List.set_cons_zero, List.set_cons_succ, bind_ok, st_ok, seq_nx, seq_rt, seq_bk, seq_ct, of_some, ofS_some, ofB_some, bi_int, bi_lenT, bi_lenL, bi_lenR, bi_tupL, bi_tupR, bi_lens, bi_str, bi_ints, bin_add, bin_sub, bin_mul, bin_fdiv, bin_mod, bin_adds, bin_addt, bin_pow, Int.reduceLT, Int.reduceLE, Int.reduceAbs, Nat.reduceLT, Nat.reduceLeDiff, cmpRV, rdSeq, rdList, myList, ixRV, sl_str, isi_int_non, isi_int_bool, isi_int_int, isi_int_str, isi_int_tup, isi_bool_non, isi_bool_bool, isi_bool_int, isi_bool_str, isi_bool_tup, isi_str_non, isi_str_bool, isi_str_int, isi_str_str, isi_str_tup, isi_tuple_non, isi_tuple_bool, isi_tuple_int, isi_tuple_str, isi_tuple_tup, isi_list_non, isi_list_bool, isi_list_int, isi_list_str, isi_list_tup, isi_dict_non, isi_dict_bool, isi_dict_int, isi_dict_str, isi_dict_tup, isn_non, isn_bool, isn_int, isn_str, isn_tup, isb_true_non, isb_true_int, isb_true_str, isb_true_tup, isb_true_true, isb_true_false, isb_false_non, isb_false_int, isb_false_str, isb_false_tup, isb_false_true, isb_false_false, truthy, settle, bindT, bindTs, unpk, recv, isLst, isTxt, sz0, sz1, sz2, sz3, sz4, sz5, sz6, Option.map_some, if_true, if_false, Bool.false_eq_true, eqRV_int, Bool.not_true, Bool.not_false, forget, hr]
  refine for_rule (I := fun xs env S' => ∃ (ds' : List Int) (cell' : Int) (a' : Option PV), env = digEnv S.length k cell' a' b ∧ S' = S ++ [.lst (ds'.map .int)] ∧ ds'.length + xs.length ≤ ds.length + 60) (Post := fun r => ∃ (ds' : List Int) (cell' : Int) (a' : Option PV), r = .nx (digEnv S.length k cell' a' b) (S ++ [.lst (ds'.map .int)]) ∧ ds'.length ≤ ds.length + 60) ?_ ?_ _ _ _ ⟨ds, cell, a, rfl, rfl, by rw [show (rangeItems 0 60).length = 60 from range_length 0 60]; exact Nat.le_refl _⟩
  · rintro x xs env S' ⟨ds', cell', a', rfl, rfl, hl'⟩
    refine ⟨rfl, _, _, rfl, ?_⟩
    simp only [List.length_cons] at hl'
    by_cases hc : 0 < cell'
    · have h1 : (ds'.map PV.int).length < sizeLine := by rw [szl]; simp; omega
      simp only [bd__law_digits_1, enter, List.map_cons, List.map_nil, List.length_cons, List.length_nil, List.cons_append, List.nil_append, Nat.reduceAdd, Nat.reduceSub, List.replicate, evalB, evalS, evalE, evalT, evalA, evalR, evalO, evalI, evalC, List.getElem?_cons_zero, List.getElem?_cons_succ, List.set_cons_zero, List.set_cons_succ, bind_ok, st_ok, seq_nx, seq_rt, seq_bk, seq_ct, of_some, ofS_some, ofB_some, bi_int, bi_lenT, bi_lenL, bi_lenR, bi_tupL, bi_tupR, bi_lens, bi_str, bi_ints, bin_add, bin_sub, bin_mul, bin_fdiv, bin_mod, bin_adds, bin_addt, bin_pow, Int.reduceLT, Int.reduceLE, Int.reduceAbs, Nat.reduceLT, Nat.reduceLeDiff, cmpRV, rdSeq, rdList, myList, ixRV, sl_str, isi_int_non, isi_int_bool, isi_int_int, isi_int_str, isi_int_tup, isi_bool_non, isi_bool_bool, isi_bool_int, isi_bool_str, isi_bool_tup, isi_str_non, isi_str_bool, isi_str_int, isi_str_str, isi_str_tup, isi_tuple_non, isi_tuple_bool, isi_tuple_int, isi_tuple_str, isi_tuple_tup, isi_list_non, isi_list_bool, isi_list_int, isi_list_str, isi_list_tup, isi_dict_non, isi_dict_bool, isi_dict_int, isi_dict_str, isi_dict_tup, isn_non, isn_bool, isn_int, isn_str, isn_tup, isb_true_non, isb_true_int, isb_true_str, isb_true_tup, isb_true_true, isb_true_false, isb_false_non, isb_false_int, isb_false_str, isb_false_tup, isb_false_true, isb_false_false, truthy, settle, bindT, bindTs, unpk, recv, isLst, isTxt, sz0, sz1, sz2, sz3, sz4, sz5, sz6, Option.map_some, if_true, if_false, Bool.false_eq_true, eqRV_int, Bool.not_true, Bool.not_false, forget, decide_eq_true hc, get_new, me_app get_new h1, set_new, map_snoc]
      exact ⟨_, _, _, rfl, rfl, by simp; omega⟩
    · simp only [bd__law_digits_1, enter, List.map_cons, List.map_nil, List.length_cons, List.length_nil, List.cons_append, List.nil_append, Nat.reduceAdd, Nat.reduceSub, List.replicate, evalB, evalS, evalE, evalT, evalA, evalR, evalO, evalI, evalC, List.getElem?_cons_zero, List.getElem?_cons_succ, List.set_cons_zero, List.set_cons_succ, bind_ok, st_ok, seq_nx, seq_rt, seq_bk, seq_ct, of_some, ofS_some, ofB_some, bi_int, bi_lenT, bi_lenL, bi_lenR, bi_tupL, bi_tupR, bi_lens, bi_str, bi_ints, bin_add, bin_sub, bin_mul, bin_fdiv, bin_mod, bin_adds, bin_addt, bin_pow, Int.reduceLT, Int.reduceLE, Int.reduceAbs, Nat.reduceLT, Nat.reduceLeDiff, cmpRV, rdSeq, rdList, myList, ixRV, sl_str, isi_int_non, isi_int_bool, isi_int_int, isi_int_str, isi_int_tup, isi_bool_non, isi_bool_bool, isi_bool_int, isi_bool_str, isi_bool_tup, isi_str_non, isi_str_bool, isi_str_int, isi_str_str, isi_str_tup, isi_tuple_non, isi_tuple_bool, isi_tuple_int, isi_tuple_str, isi_tuple_tup, isi_list_non, isi_list_bool, isi_list_int, isi_list_str, isi_list_tup, isi_dict_non, isi_dict_bool, isi_dict_int, isi_dict_str, isi_dict_tup, isn_non, isn_bool, isn_int, isn_str, isn_tup, isb_true_non, isb_true_int, isb_true_str, isb_true_tup, isb_true_true, isb_true_false, isb_false_non, isb_false_int, isb_false_str, isb_false_tup, isb_false_true, isb_false_false, truthy, settle, bindT, bindTs, unpk, recv, isLst, isTxt, sz0, sz1, sz2, sz3, sz4, sz5, sz6, Option.map_some, if_true, if_false, Bool.false_eq_true, eqRV_int, Bool.not_true, Bool.not_false, forget, decide_eq_false hc]
      exact ⟨_, _, _, rfl, rfl, by omega⟩
  · rintro env S' ⟨ds', cell', a', rfl, rfl, hl'⟩
    exact ⟨rfl, _, _, _, rfl, by simpa using hl'⟩
theorem dig_in2 {P : Par} {S : Store} {ds : List Int} {k cell seed : Int} {a : Option PV} (hl : ds.length ≤ 100000) :
    ∃ (ds' : List Int) (a' b' : Option PV), evalS P fs__law_digits_4 (digEnv S.length k cell a (some (.int seed))) (S ++ [.lst (ds.map .int)]) = .nx (digEnv S.length k cell a' b') (S ++ [.lst (ds'.map .int)]) ∧ ds'.length ≤ ds.length + 60 := by
  have hr : inRange 12 = true := by decide
  simp only [fs__law_digits_4, enter, List.map_cons, List.map_nil, List.length_cons, List.length_nil, List.cons_append, List.nil_append, Nat.reduceAdd, Nat.reduceSub, List.replicate, evalB, evalS, evalE, evalT, evalA, evalR, evalO, evalI, evalC, List.getElem?_cons_zero, List.getElem?_cons_succ, List.set_cons_zero, List.set_cons_succ, bind_ok, st_ok, seq_nx, seq_rt, seq_bk, seq_ct, of_some, ofS_some, ofB_some, bi_int, bi_lenT, bi_lenL, bi_lenR, bi_tupL, bi_tupR, bi_lens, bi_str, bi_ints, bin_add, bin_sub, bin_mul, bin_fdiv, bin_mod, bin_adds, bin_addt, bin_pow, Int.reduceLT, Int.reduceLE, Int.reduceAbs, Nat.reduceLT, Nat.reduceLeDiff, cmpRV, rdSeq, rdList, myList, ixRV, sl_str, isi_int_non, isi_int_bool, isi_int_int, isi_int_str, isi_int_tup, isi_bool_non, isi_bool_bool, isi_bool_int, isi_bool_str, isi_bool_tup, isi_str_non, isi_str_bool, isi_str_int, isi_str_str, isi_str_tup, isi_tuple_non, isi_tuple_bool, isi_tuple_int, isi_tuple_str, isi_tuple_tup, isi_list_non, isi_list_bool, isi_list_int, isi_list_str, isi_list_tup, isi_dict_non, isi_dict_bool, isi_dict_int, isi_dict_str, isi_dict_tup, isn_non, isn_bool, isn_int, isn_str, isn_tup, isb_true_non, isb_true_int, isb_true_str, isb_true_tup, isb_true_true, isb_true_false, isb_false_non, isb_false_int, isb_false_str, isb_false_tup, isb_false_true, isb_false_false, truthy, settle, bindT, bindTs, unpk, recv, isLst, isTxt, sz0, sz1, sz2, sz3, sz4, sz5, sz6, Option.map_some, if_true, if_false, Bool.false_eq_true, eqRV_int, Bool.not_true, Bool.not_false, forget, hr]
  refine for_rule (I := fun xs env S' => ∃ (ds' : List Int) (a' : Option PV) (seed' : Int), env = digEnv S.length k cell a' (some (.int seed')) ∧ S' = S ++ [.lst (ds'.map .int)] ∧ ds'.length + xs.length ≤ ds.length + 12 ∧ ∀ x ∈ xs, ∃ i : Int, x = .int i) (Post := fun r => ∃ (ds' : List Int) (a' b' : Option PV), r = .nx (digEnv S.length k cell a' b') (S ++ [.lst (ds'.map .int)]) ∧ ds'.length ≤ ds.length + 60) ?_ ?_ _ _ _ ⟨ds, a, seed, rfl, rfl, by rw [show (rangeItems 0 12).length = 12 from range_length 0 12]; exact Nat.le_refl _, fun x hx => by obtain ⟨k, _, e⟩ := range_mem hx; exact ⟨_, e⟩⟩
  · rintro x xs env S' ⟨ds', a', seed', rfl, rfl, hl', hi⟩
    obtain ⟨i, rfl⟩ := hi x List.mem_cons_self
    refine ⟨rfl, _, _, rfl, ?_⟩
    simp only [List.length_cons] at hl'
    have h1 : (ds'.map PV.int).length < sizeLine := by rw [szl]; simp; omega
    have m1 : ∀ z : Int, mulOk z 16807 = true := fun z => mulOk_r (by decide)
    have m2 : ∀ z : Int, mulOk 7 z = true := fun z => mulOk_l (by decide)
    simp only [bd__law_digits_3, enter, List.map_cons, List.map_nil, List.length_cons, List.length_nil, List.cons_append, List.nil_append, Nat.reduceAdd, Nat.reduceSub, List.replicate, evalB, evalS, evalE, evalT, evalA, evalR, evalO, evalI, evalC, List.getElem?_cons_zero, List.getElem?_cons_succ, List.set_cons_zero, List.set_cons_succ, bind_ok, st_ok, seq_nx, seq_rt, seq_bk, seq_ct, of_some, ofS_some, ofB_some, bi_int, bi_lenT, bi_lenL, bi_lenR, bi_tupL, bi_tupR, bi_lens, bi_str, bi_ints, bin_add, bin_sub, bin_mul, bin_fdiv, bin_mod, bin_adds, bin_addt, bin_pow, Int.reduceLT, Int.reduceLE, Int.reduceAbs, Nat.reduceLT, Nat.reduceLeDiff, cmpRV, rdSeq, rdList, myList, ixRV, sl_str, isi_int_non, isi_int_bool, isi_int_int, isi_int_str, isi_int_tup, isi_bool_non, isi_bool_bool, isi_bool_int, isi_bool_str, isi_bool_tup, isi_str_non, isi_str_bool, isi_str_int, isi_str_str, isi_str_tup, isi_tuple_non, isi_tuple_bool, isi_tuple_int, isi_tuple_str, isi_tuple_tup, isi_list_non, isi_list_bool, isi_list_int, isi_list_str, isi_list_tup, isi_dict_non, isi_dict_bool, isi_dict_int, isi_dict_str, isi_dict_tup, isn_non, isn_bool, isn_int, isn_str, isn_tup, isb_true_non, isb_true_int, isb_true_str, isb_true_tup, isb_true_true, isb_true_false, isb_false_non, isb_false_int, isb_false_str, isb_false_tup, isb_false_true, isb_false_false, truthy, settle, bindT, bindTs, unpk, recv, isLst, isTxt, sz0, sz1, sz2, sz3, sz4, sz5, sz6, Option.map_some, if_true, if_false, Bool.false_eq_true, eqRV_int, Bool.not_true, Bool.not_false, forget, m1, m2, get_new, me_app get_new h1, set_new, map_snoc]
    exact ⟨_, _, _, rfl, rfl, by simp; omega, fun y hy => hi y (List.mem_cons_of_mem _ hy)⟩
  · rintro env S' ⟨ds', a', seed', rfl, rfl, hl', _⟩
    simp only [List.length_nil] at hl'
    exact ⟨rfl, _, _, _, rfl, by omega⟩
theorem digits_ok {k : Nat} (h39 : Pr 39 = some fd__law_digits) (h23 : Pr 23 = some fd__law_cell) {S : Store} {xs : List Int} (h0 : S[0]? = some (.ro (xs.map .int))) :
   ∃ ds : List Int, evalFn Pr gl fuel (k+2) 39 [.ref 0, .int 0, .int 63] S = .ok (.lst (ds.map .int)) S := by
  rw [call_eq h39 rfl]
  have hr0 : inRange 0 = true := by decide
  have hr : inRange 63 = true := by decide
  simp only [fd__law_digits, fs__law_digits_6, enter, List.map_cons, List.map_nil, List.length_cons, List.length_nil, List.cons_append, List.nil_append, Nat.reduceAdd, Nat.reduceSub, List.replicate, evalB, evalS, evalE, evalT, evalA, evalR, evalO, evalI, evalC, List.getElem?_cons_zero, List.getElem?_cons_succ, List.set_cons_zero, List.set_cons_succ, bind_ok, st_ok, seq_nx, seq_rt, seq_bk, seq_ct, of_some, ofS_some, ofB_some, bi_int, bi_lenT, bi_lenL, bi_lenR, bi_tupL, bi_tupR, bi_lens, bi_str, bi_ints, bin_add, bin_sub, bin_mul, bin_fdiv, bin_mod, bin_adds, bin_addt, bin_pow, Int.reduceLT, Int.reduceLE, Int.reduceAbs, Nat.reduceLT, Nat.reduceLeDiff, cmpRV, rdSeq, rdList, myList, ixRV, sl_str, isi_int_non, isi_int_bool, isi_int_int, isi_int_str, isi_int_tup, isi_bool_non, isi_bool_bool, isi_bool_int, isi_bool_str, isi_bool_tup, isi_str_non, isi_str_bool, isi_str_int, isi_str_str, isi_str_tup, isi_tuple_non, isi_tuple_bool, isi_tuple_int, isi_tuple_str, isi_tuple_tup, isi_list_non, isi_list_bool, isi_list_int, isi_list_str, isi_list_tup, isi_dict_non, isi_dict_bool, isi_dict_int, isi_dict_str, isi_dict_tup, isn_non, isn_bool, isn_int, isn_str, isn_tup, isb_true_non, isb_true_int, isb_true_str, isb_true_tup, isb_true_true, isb_true_false, isb_false_non, isb_false_int, isb_false_str, isb_false_tup, isb_false_true, isb_false_false, truthy, settle, bindT, bindTs, unpk, recv, isLst, isTxt, sz0, sz1, sz2, sz3, sz4, sz5, sz6, Option.map_some, if_true, if_false, Bool.false_eq_true, eqRV_int, Bool.not_true, Bool.not_false, forget, hr, hr0, Bool.and_self]
  have key := for_rule (g := none) (bnd := fun x e S2 => bindT (.name 4) (.v x) e S2) (body := evalB ⟨evalFn Pr gl fuel (k + 1), gl, fuel⟩ bd__law_digits_5)
    (I := fun ys env S' => ∃ (ds : List Int) (a b c d : Option PV), env = [some (.ref 0), some (.int 0), some (.int 63), some (.ref S.length), a, b, c, d] ∧ S' = S ++ [.lst (ds.map .int)] ∧ ds.length + 60 * ys.length ≤ 3780 ∧ ∀ y ∈ ys, ∃ i : Nat, i < 63 ∧ y = .int i)
    (Post := fun r => ∃ (ds : List Int) (a b c d : Option PV), r = .nx [some (.ref 0), some (.int 0), some (.int 63), some (.ref S.length), a, b, c, d] (S ++ [.lst (ds.map .int)])) ?_ ?_ (rangeItems 0 63) [some (.ref 0), some (.int 0), some (.int 63), some (.ref S.length), none, none, none, none] (S ++ [.lst []]) ⟨[], none, none, none, none, rfl, rfl, by rw [show (rangeItems 0 63).length = 63 from range_length 0 63]; exact Nat.le_refl _, fun x hx => by obtain ⟨k, hk, e⟩ := range_mem hx; exact ⟨k, by omega, by rw [e]; simp⟩⟩
  · obtain ⟨ds, a, b, c, d, e⟩ := key
    simp only [bindT, settle] at e
    rw [e]
    refine ⟨ds, ?_⟩
    simp only [enter, List.map_cons, List.map_nil, List.length_cons, List.length_nil, List.cons_append, List.nil_append, Nat.reduceAdd, Nat.reduceSub, List.replicate, evalB, evalS, evalE, evalT, evalA, evalR, evalO, evalI, evalC, List.getElem?_cons_zero, List.getElem?_cons_succ, List.set_cons_zero, List.set_cons_succ, bind_ok, st_ok, seq_nx, seq_rt, seq_bk, seq_ct, of_some, ofS_some, ofB_some, bi_int, bi_lenT, bi_lenL, bi_lenR, bi_tupL, bi_tupR, bi_lens, bi_str, bi_ints, bin_add, bin_sub, bin_mul, bin_fdiv, bin_mod, bin_adds, bin_addt, bin_pow, Int.reduceLT, Int.reduceLE, Int.reduceAbs, Nat.reduceLT, Nat.reduceLeDiff, cmpRV, rdSeq, rdList, myList, ixRV, sl_str, isi_int_non, isi_int_bool, isi_int_int, isi_int_str, isi_int_tup, isi_bool_non, isi_bool_bool, isi_bool_int, isi_bool_str, isi_bool_tup, isi_str_non, isi_str_bool, isi_str_int, isi_str_str, isi_str_tup, isi_tuple_non, isi_tuple_bool, isi_tuple_int, isi_tuple_str, isi_tuple_tup, isi_list_non, isi_list_bool, isi_list_int, isi_list_str, isi_list_tup, isi_dict_non, isi_dict_bool, isi_dict_int, isi_dict_str, isi_dict_tup, isn_non, isn_bool, isn_int, isn_str, isn_tup, isb_true_non, isb_true_int, isb_true_str, isb_true_tup, isb_true_true, isb_true_false, isb_false_non, isb_false_int, isb_false_str, isb_false_tup, isb_false_true, isb_false_false, truthy, settle, bindT, bindTs, unpk, recv, isLst, isTxt, sz0, sz1, sz2, sz3, sz4, sz5, sz6, Option.map_some, if_true, if_false, Bool.false_eq_true, eqRV_int, Bool.not_true, Bool.not_false, forget, finR]
    rw [gc_ref (xs := ds.map .int) (by omega) get_new (under_ints _ _)]
  · rintro x ys env S' ⟨ds, a, b, c, d, rfl, rfl, hl, hi⟩
    obtain ⟨i, hi63, rfl⟩ := hi x List.mem_cons_self
    refine ⟨rfl, _, _, rfl, ?_⟩
    simp only [List.length_cons] at hl
    by_cases hb : ds.length > 1500
    · have h1 : decide ((1500 : Int) < ((ds.map PV.int).length : Int)) = true := decide_eq_true (by simp; omega)
      simp only [bd__law_digits_5, enter, List.map_cons, List.map_nil, List.length_cons, List.length_nil, List.cons_append, List.nil_append, Nat.reduceAdd, Nat.reduceSub, List.replicate, evalB, evalS, evalE, evalT, evalA, evalR, evalO, evalI, evalC, List.getElem?_cons_zero, List.getElem?_cons_succ, List.set_cons_zero, List.set_cons_succ, bind_ok, st_ok, seq_nx, seq_rt, seq_bk, seq_ct, of_some, ofS_some, ofB_some, bi_int, bi_lenT, bi_lenL, bi_lenR, bi_tupL, bi_tupR, bi_lens, bi_str, bi_ints, bin_add, bin_sub, bin_mul, bin_fdiv, bin_mod, bin_adds, bin_addt, bin_pow, Int.reduceLT, Int.reduceLE, Int.reduceAbs, Nat.reduceLT, Nat.reduceLeDiff, cmpRV, rdSeq, rdList, myList, ixRV, sl_str, isi_int_non, isi_int_bool, isi_int_int, isi_int_str, isi_int_tup, isi_bool_non, isi_bool_bool, isi_bool_int, isi_bool_str, isi_bool_tup, isi_str_non, isi_str_bool, isi_str_int, isi_str_str, isi_str_tup, isi_tuple_non, isi_tuple_bool, isi_tuple_int, isi_tuple_str, isi_tuple_tup, isi_list_non, isi_list_bool, isi_list_int, isi_list_str, isi_list_tup, isi_dict_non, isi_dict_bool, isi_dict_int, isi_dict_str, isi_dict_tup, isn_non, isn_bool, isn_int, isn_str, isn_tup, isb_true_non, isb_true_int, isb_true_str, isb_true_tup, isb_true_true, isb_true_false, isb_false_non, isb_false_int, isb_false_str, isb_false_tup, isb_false_true, isb_false_false, truthy, settle, bindT, bindTs, unpk, recv, isLst, isTxt, sz0, sz1, sz2, sz3, sz4, sz5, sz6, Option.map_some, if_true, if_false, Bool.false_eq_true, eqRV_int, Bool.not_true, Bool.not_false, forget, get_new, h1]
      exact ⟨_, _, _, _, _, rfl⟩
    · have h1 : decide ((1500 : Int) < ((ds.map PV.int).length : Int)) = false := decide_eq_false (by simp; omega)
      have hg : (S ++ [MO.lst (ds.map .int)])[0]? = some (.ro (xs.map .int)) := get_oldS h0
      have hcell := cell_ok (gl := gl) (fuel := fuel) (k := k) h23 hg i
      have m2 : ∀ z : Int, mulOk 2 z = true := fun z => mulOk_l (by decide)
      have m3 : ∀ z : Int, mulOk z 48271 = true := fun z => mulOk_r (by decide)
      have m4 : ∀ z : Int, mulOk z 69621 = true := fun z => mulOk_r (by decide)
      have p18 : ∀ S : Store, binRV .pow (.v (.int 10)) (.v (.int 18)) S = some (.v (.int 1000000000000000000)) := fun S => by
        have := bin_pow (S := S) (a := 10) (n := 18) (by decide) (by decide)
        simpa using this
      -- the cell, folded
      have fold : ∃ c1 : Int, (if decide (xs.getD i 0 < 0) = true then SR.nx (digEnv S.length i (1 - 2 * xs.getD i 0) c d) (S ++ [MO.lst (ds.map .int)]) else .nx (digEnv S.length i (xs.getD i 0) c d) (S ++ [MO.lst (ds.map .int)])) = .nx (digEnv S.length i c1 c d) (S ++ [MO.lst (ds.map .int)]) := by
        by_cases hz : xs.getD i 0 < 0
        · exact ⟨_, by rw [if_pos (decide_eq_true hz)]⟩
        · exact ⟨_, by rw [if_neg (by rw [decide_eq_false hz]; exact Bool.false_ne_true)]⟩
      have hl1 : ds.length ≤ 100000 := by omega
      have fin2 : ∀ ds' : List Int, ds'.length ≤ ds.length + 60 → ds'.length + 60 * ys.length ≤ 3780 := fun ds' h => by omega
      have rest : ∀ c1 : Int, ∃ (ds' : List Int) (b' c' d' : Option PV), evalB ⟨evalFn Pr gl fuel (k + 1), gl, fuel⟩ (.cons (.ifS (.cmp .ge (.var 5) (.bin .pow (.int 10) (.int 18)))
            (.cons fs__law_digits_2 .nil)
            (.cons (.asg (.name 7) (.bin .mod (.bcall .int (.cons (.bin .add (.bin .add (.bin .mul (.var 5) (.int 48271)) (.bin .mul (.var 4) (.int 69621))) (.int 11)) .nil)) (.int 2147483647)))
            (.cons fs__law_digits_4 .nil))) .nil) (digEnv S.length i c1 c d) (S ++ [MO.lst (ds.map .int)]) = .nx [some (.ref 0), some (.int 0), some (.int 63), some (.ref S.length), some (.int i), b', c', d'] (S ++ [MO.lst (ds'.map .int)]) ∧ ds'.length ≤ ds.length + 60 := fun c1 => by
        rw [evalB, evalS]
        by_cases hz : (1000000000000000000 : Int) ≤ c1
        · obtain ⟨ds', cell', a', e, hh⟩ := dig_in1 (P := ⟨evalFn Pr gl fuel (k + 1), gl, fuel⟩) (S := S) (ds := ds) (k := i) (cell := c1) (a := c) (b := d) hl1
          refine ⟨ds', some (.int cell'), a', d, ?_, hh⟩
          simp only [evalT, evalE, List.getElem?_cons_zero, List.getElem?_cons_succ, bind_ok, of_some, p18, cmpRV, decide_eq_true hz, Option.map_some, st_ok, if_true]
          rw [evalB, e]
          simp only [seq_nx, evalB]
        · obtain ⟨ds', a', b', e, hh⟩ := dig_in2 (P := ⟨evalFn Pr gl fuel (k + 1), gl, fuel⟩) (S := S) (ds := ds) (k := i) (cell := c1) (seed := (c1 * 48271 + i * 69621 + 11) % 2147483647) (a := c) hl1
          refine ⟨ds', some (.int c1), a', b', ?_, hh⟩
          simp only [evalT, evalE, List.getElem?_cons_zero, List.getElem?_cons_succ, bind_ok, of_some, p18, cmpRV, decide_eq_false hz, Option.map_some, st_ok, if_false, Bool.false_eq_true]
          rw [evalB]
          have ea : evalS ⟨evalFn Pr gl fuel (k + 1), gl, fuel⟩ (.asg (.name 7) (.bin .mod (.bcall .int (.cons (.bin .add (.bin .add (.bin .mul (.var 5) (.int 48271)) (.bin .mul (.var 4) (.int 69621))) (.int 11)) .nil)) (.int 2147483647))) (digEnv S.length i c1 c d) (S ++ [MO.lst (ds.map .int)]) = .nx (digEnv S.length i c1 c (some (.int ((c1 * 48271 + i * 69621 + 11) % 2147483647)))) (S ++ [MO.lst (ds.map .int)]) := by
            simp only [enter, List.map_cons, List.map_nil, List.length_cons, List.length_nil, List.cons_append, List.nil_append, Nat.reduceAdd, Nat.reduceSub, List.replicate, evalB, evalS, evalE, evalT, evalA, evalR, evalO, evalI, evalC, List.getElem?_cons_zero, List.getElem?_cons_succ, List.set_cons_zero, List.set_cons_succ, bind_ok, st_ok, seq_nx, seq_rt, seq_bk, seq_ct, of_some, ofS_some, ofB_some, bi_int, bi_lenT, bi_lenL, bi_lenR, bi_tupL, bi_tupR, bi_lens, bi_str, bi_ints, bin_add, bin_sub, bin_mul, bin_fdiv, bin_mod, bin_adds, bin_addt, bin_pow, Int.reduceLT, Int.reduceLE, Int.reduceAbs, Nat.reduceLT, Nat.reduceLeDiff, cmpRV, rdSeq, rdList, myList, ixRV, sl_str, isi_int_non, isi_int_bool, isi_int_int, isi_int_str, isi_int_tup, isi_bool_non, isi_bool_bool, isi_bool_int, isi_bool_str, isi_bool_tup, isi_str_non, isi_str_bool, isi_str_int, isi_str_str, isi_str_tup, isi_tuple_non, isi_tuple_bool, isi_tuple_int, isi_tuple_str, isi_tuple_tup, isi_list_non, isi_list_bool, isi_list_int, isi_list_str, isi_list_tup, isi_dict_non, isi_dict_bool, isi_dict_int, isi_dict_str, isi_dict_tup, isn_non, isn_bool, isn_int, isn_str, isn_tup, isb_true_non, isb_true_int, isb_true_str, isb_true_tup, isb_true_true, isb_true_false, isb_false_non, isb_false_int, isb_false_str, isb_false_tup, isb_false_true, isb_false_false, truthy, settle, bindT, bindTs, unpk, recv, isLst, isTxt, sz0, sz1, sz2, sz3, sz4, sz5, sz6, Option.map_some, if_true, if_false, Bool.false_eq_true, eqRV_int, Bool.not_true, Bool.not_false, forget, m3, m4]
          rw [ea, seq_nx, evalB, e]
          simp only [seq_nx, evalB]
      obtain ⟨c1, ef⟩ := fold
      obtain ⟨ds', b', c', d', er, hh⟩ := rest c1
      have stage : evalB ⟨evalFn Pr gl fuel (k + 1), gl, fuel⟩ bd__law_digits_5 [some (.ref 0), some (.int 0), some (.int 63), some (.ref S.length), some (.int i), b, c, d] (S ++ [MO.lst (ds.map .int)]) = .nx [some (.ref 0), some (.int 0), some (.int 63), some (.ref S.length), some (.int i), b', c', d'] (S ++ [MO.lst (ds'.map .int)]) := by
        rw [← er]
        rw [bd__law_digits_5]
        simp only [enter, List.map_cons, List.map_nil, List.length_cons, List.length_nil, List.cons_append, List.nil_append, Nat.reduceAdd, Nat.reduceSub, List.replicate, evalB, evalS, evalE, evalT, evalA, evalR, evalO, evalI, evalC, List.getElem?_cons_zero, List.getElem?_cons_succ, List.set_cons_zero, List.set_cons_succ, bind_ok, st_ok, seq_nx, seq_rt, seq_bk, seq_ct, of_some, ofS_some, ofB_some, bi_int, bi_lenT, bi_lenL, bi_lenR, bi_tupL, bi_tupR, bi_lens, bi_str, bi_ints, bin_add, bin_sub, bin_mul, bin_fdiv, bin_mod, bin_adds, bin_addt, bin_pow, Int.reduceLT, Int.reduceLE, Int.reduceAbs, Nat.reduceLT, Nat.reduceLeDiff, cmpRV, rdSeq, rdList, myList, ixRV, sl_str, isi_int_non, isi_int_bool, isi_int_int, isi_int_str, isi_int_tup, isi_bool_non, isi_bool_bool, isi_bool_int, isi_bool_str, isi_bool_tup, isi_str_non, isi_str_bool, isi_str_int, isi_str_str, isi_str_tup, isi_tuple_non, isi_tuple_bool, isi_tuple_int, isi_tuple_str, isi_tuple_tup, isi_list_non, isi_list_bool, isi_list_int, isi_list_str, isi_list_tup, isi_dict_non, isi_dict_bool, isi_dict_int, isi_dict_str, isi_dict_tup, isn_non, isn_bool, isn_int, isn_str, isn_tup, isb_true_non, isb_true_int, isb_true_str, isb_true_tup, isb_true_true, isb_true_false, isb_false_non, isb_false_int, isb_false_str, isb_false_tup, isb_false_true, isb_false_false, truthy, settle, bindT, bindTs, unpk, recv, isLst, isTxt, sz0, sz1, sz2, sz3, sz4, sz5, sz6, Option.map_some, if_true, if_false, Bool.false_eq_true, eqRV_int, Bool.not_true, Bool.not_false, forget, get_new, h1, hcell, m2]
        rw [ef, seq_nx]
        simp only [enter, List.map_cons, List.map_nil, List.length_cons, List.length_nil, List.cons_append, List.nil_append, Nat.reduceAdd, Nat.reduceSub, List.replicate, evalB, evalS, evalE, evalT, evalA, evalR, evalO, evalI, evalC, List.getElem?_cons_zero, List.getElem?_cons_succ, List.set_cons_zero, List.set_cons_succ, bind_ok, st_ok, seq_nx, seq_rt, seq_bk, seq_ct, of_some, ofS_some, ofB_some, bi_int, bi_lenT, bi_lenL, bi_lenR, bi_tupL, bi_tupR, bi_lens, bi_str, bi_ints, bin_add, bin_sub, bin_mul, bin_fdiv, bin_mod, bin_adds, bin_addt, bin_pow, Int.reduceLT, Int.reduceLE, Int.reduceAbs, Nat.reduceLT, Nat.reduceLeDiff, cmpRV, rdSeq, rdList, myList, ixRV, sl_str, isi_int_non, isi_int_bool, isi_int_int, isi_int_str, isi_int_tup, isi_bool_non, isi_bool_bool, isi_bool_int, isi_bool_str, isi_bool_tup, isi_str_non, isi_str_bool, isi_str_int, isi_str_str, isi_str_tup, isi_tuple_non, isi_tuple_bool, isi_tuple_int, isi_tuple_str, isi_tuple_tup, isi_list_non, isi_list_bool, isi_list_int, isi_list_str, isi_list_tup, isi_dict_non, isi_dict_bool, isi_dict_int, isi_dict_str, isi_dict_tup, isn_non, isn_bool, isn_int, isn_str, isn_tup, isb_true_non, isb_true_int, isb_true_str, isb_true_tup, isb_true_true, isb_true_false, isb_false_non, isb_false_int, isb_false_str, isb_false_tup, isb_false_true, isb_false_false, truthy, settle, bindT, bindTs, unpk, recv, isLst, isTxt, sz0, sz1, sz2, sz3, sz4, sz5, sz6, Option.map_some, if_true, if_false, Bool.false_eq_true, eqRV_int, Bool.not_true, Bool.not_false, forget]
      show (match evalB ⟨evalFn Pr gl fuel (k + 1), gl, fuel⟩ bd__law_digits_5 [some (.ref 0), some (.int 0), some (.int 63), some (.ref S.length), some (.int i), b, c, d] (S ++ [MO.lst (ds.map .int)]) with
        | .nx e2 S2 => _
        | .ct e2 S2 => _
        | .bk e2 S2 => _
        | r => _)
      rw [stage]
      exact ⟨ds', _, b', c', d', rfl, rfl, fin2 _ hh, fun y hy => hi y (List.mem_cons_of_mem _ hy)⟩
  · rintro env S' ⟨ds, a, b, c, d, rfl, rfl, _⟩
    exact ⟨rfl, _, _, _, _, _, rfl⟩
end
end Deep

set_option Elab.async false
set_option linter.all false
set_option maxRecDepth 100000
set_option maxHeartbeats 1000000
namespace Deep
open PySem PySem.Spec PyProof.Rows L2 PySem.StrLaws TL
/-! ### plain values and their texts -/
def escL (l : List Nat) : List Nat := l.flatMap fun c => if c = 92 then [92, 92] else if c = 34 then [92, 34] else if c = 10 then [92, 110] else [c]
mutual
def pT : PV → List Nat
  | .non => [78]
  | .bool true => [84]
  | .bool false => [70]
  | .int i => intL i
  | .str z => 34 :: (escL (tl z) ++ [34])
  | .tup xs => 40 :: (joinL [32] (pTL xs) ++ [41])
  | .ref _ => []
def pTL : List PV → List (List Nat)
  | [] => []
  | x :: xs => pT x :: pTL xs
end
mutual
def plain : PV → Bool
  | .int i => decide (i.natAbs < 10 ^ 20)
  | .tup xs => plainL xs
  | .ref _ => false
  | _ => true
def plainL : List PV → Bool
  | [] => true
  | x :: xs => plain x && plainL xs
end
mutual
def nest : PV → Nat
  | .tup xs => nestL xs + 1
  | _ => 0
def nestL : List PV → Nat
  | [] => 0
  | x :: xs => max (nest x) (nestL xs)
end
mutual
theorem plain_under {n : Nat} : ∀ {v : PV}, plain v = true → v.under n = true
  | .non, _ => rfl
  | .bool _, _ => rfl
  | .int _, _ => rfl
  | .str _, _ => rfl
  | .tup xs, h => plainL_under (xs := xs) h
theorem plainL_under {n : Nat} : ∀ {xs : List PV}, plainL xs = true → PV.underL n xs = true
  | [], _ => rfl
  | x :: xs, h => by
    have h : (plain x && plainL xs) = true := h
    rw [Bool.and_eq_true] at h
    show (x.under n && PV.underL n xs) = true
    rw [plain_under h.1, plainL_under h.2]
    rfl
end
theorem escL_len : ∀ l : List Nat, (escL l).length ≤ 2 * l.length
  | [] => Nat.le_refl _
  | c :: l => by
    have ih := escL_len l
    have : escL (c :: l) = (if c = 92 then [92, 92] else if c = 34 then [92, 34] else if c = 10 then [92, 110] else [c]) ++ escL l := rfl
    rw [this, List.length_append, List.length_cons]
    split
    · simp; omega
    · split
      · simp; omega
      · split
        · simp; omega
        · simp; omega
/-- bound of a text by the depth -/
def bd : Nat → Nat
  | 0 => 30
  | d + 1 => 3 * bd d + 10
theorem bd_ge (d : Nat) : 30 ≤ bd d := by
  induction d with
  | zero => exact Nat.le_refl _
  | succ d ih => show 30 ≤ 3 * bd d + 10; omega
structure Gen (d : Nat) (v : PV) : Prop where
  pl : plain v = true
  ne : nest v ≤ d
  le : (pT v).length ≤ bd d
theorem joinL_len {S : List Nat} : ∀ (ps : List (List Nat)) (b : Nat), (∀ p ∈ ps, p.length ≤ b) → (joinL S ps).length ≤ ps.length * (b + S.length)
  | [], b, _ => Nat.zero_le _
  | [p], b, h => by
    have := h p List.mem_cons_self
    show p.length ≤ 1 * (b + S.length)
    omega
  | p :: q :: r, b, h => by
    have h1 := h p List.mem_cons_self
    have ih := joinL_len (S := S) (q :: r) b fun x hx => h x (List.mem_cons_of_mem _ hx)
    have e : joinL S (p :: q :: r) = p ++ (S ++ joinL S (q :: r)) := rfl
    rw [e, List.length_append, List.length_append]
    simp only [List.length_cons] at ih ⊢
    have : (r.length + 1 + 1) * (b + S.length) = (r.length + 1) * (b + S.length) + (b + S.length) := by rw [Nat.add_mul]; omega
    omega
theorem pTL_map : ∀ xs : List PV, pTL xs = xs.map pT
  | [] => rfl
  | x :: xs => by show pT x :: pTL xs = _; rw [pTL_map xs]; rfl
theorem plainL_all : ∀ {xs : List PV}, plainL xs = true ↔ ∀ x ∈ xs, plain x = true
  | [] => ⟨fun _ x hx => (nomatch hx), fun _ => rfl⟩
  | x :: xs => by
    have e : plainL (x :: xs) = (plain x && plainL xs) := rfl
    rw [e, Bool.and_eq_true, plainL_all (xs := xs)]
    simp
theorem nestL_all {d : Nat} : ∀ {xs : List PV}, nestL xs ≤ d ↔ ∀ x ∈ xs, nest x ≤ d
  | [] => ⟨fun _ x hx => (nomatch hx), fun _ => Nat.zero_le _⟩
  | x :: xs => by
    have e : nestL (x :: xs) = max (nest x) (nestL xs) := rfl
    rw [e, Nat.max_le, nestL_all (xs := xs)]
    simp
theorem Gen.tup {d : Nat} {xs : List PV} (hl : xs.length ≤ 3) (h : ∀ x ∈ xs, Gen d x) : Gen (d + 1) (.tup xs) := by
  refine ⟨plainL_all.mpr fun x hx => (h x hx).pl, Nat.succ_le_succ (nestL_all.mpr fun x hx => (h x hx).ne), ?_⟩
  show (40 :: (joinL [32] (pTL xs) ++ [41])).length ≤ 3 * bd d + 10
  have := joinL_len (S := [32]) (pTL xs) (bd d) (by
    rw [pTL_map]
    intro p hp
    obtain ⟨x, hx, rfl⟩ := List.mem_map.mp hp
    exact (h x hx).le)
  have e : (pTL xs).length = xs.length := by rw [pTL_map, List.length_map]
  rw [e, show ([32] : List Nat).length = 1 from rfl] at this
  simp only [List.length_cons, List.length_append, List.length_nil]
  have : xs.length * (bd d + 1) ≤ 3 * (bd d + 1) := Nat.mul_le_mul_right _ hl
  omega
theorem Gen.int {d : Nat} {i : Int} (h : i.natAbs < 10 ^ 20) : Gen d (.int i) := by
  refine ⟨decide_eq_true h, Nat.zero_le _, ?_⟩
  have := intL_len (k := 20) (by decide) h
  have := bd_ge d
  show (intL i).length ≤ _
  omega
theorem Gen.flat {d : Nat} {v : PV} (h : v = .non ∨ v = .bool true ∨ v = .bool false) : Gen d v := by
  have := bd_ge d
  rcases h with rfl | rfl | rfl
  · exact ⟨rfl, Nat.zero_le _, by show 1 ≤ _; omega⟩
  · exact ⟨rfl, Nat.zero_le _, by show 1 ≤ _; omega⟩
  · exact ⟨rfl, Nat.zero_le _, by show 1 ≤ _; omega⟩
theorem Gen.str {d : Nat} {z : Str} (h : (tl z).length ≤ 10) : Gen d (.str z) := by
  have := bd_ge d
  have := escL_len (tl z)
  refine ⟨rfl, Nat.zero_le _, ?_⟩
  show (34 :: (escL (tl z) ++ [34])).length ≤ _
  simp
  omega
/-! ### the draw of a value -/
section
variable {Pr : Prog} {gl : Nat → Option PV} {fuel : Nat} {S : Store} {n m : Nat} {ds : List Int}
def bx (S : Store) (n m a : Nat) : Store := S.set n (boxO m a)
theorem draw_bx {k : Nat} (h : Pr 44 = some fd__law_draw) (hn : n < S.length) (ne : n ≠ m) (hm : S[m]? = some (.lst (ds.map .int))) (a : Nat) (many : Int) (hp : 0 < many) :
    evalFn Pr gl fuel (k + 1) 44 [.ref n, .int many] (bx S n m a) = .ok (.v (.int (drawV ds a many))) (bx S n m (a + 1)) := by
  have := draw_ok (gl := gl) (fuel := fuel) (k := k) h (S := bx S n m a) (n := n) (m := m) (at_ := a) (ds := ds) (many := many) (by simp [bx, hn]) (by unfold bx; rw [List.getElem?_set_ne ne]; exact hm) hp
  rw [this]
  simp [bx]
theorem gc_bx (hm : m < S.length) {x : PV} {a a' : Nat} (h : x.under S.length = true) : gcR (bx S n m a) (.v x) (bx S n m a') = (.v x, bx S n m a') := by
  have e : bx S n m a' = (bx S n m a).set n (boxO m a') := by simp [bx]
  have l : (bx S n m a).length = S.length := by simp [bx]
  rw [e]
  exact gc_set0 (by rw [l]; simp [boxO, MO.under, PV.underL, PV.under, hm]) (by rw [l]; exact h)
def alpha : Str := " !\"#$&'()*+,-./0189:;<=>?@AZ[\\]^_`az{|}~\nnTFN"
theorem value_ok (h44 : Pr 44 = some fd__law_draw) (h194 : Pr 194 = some fd__law_value) (hn : n < S.length) (ne : n ≠ m) (hm : S[m]? = some (.lst (ds.map .int))) :
    ∀ (d k a : Nat), d + 2 ≤ k → ∃ v a', evalFn Pr gl fuel k 194 [.ref n, .int d] (bx S n m a) = .ok (.v v) (bx S n m a') ∧ Gen d v := by
  have lm := (List.getElem?_eq_some_iff.mp hm).1
  intro d
  induction d using Nat.strongRecOn with
  | _ d ih =>
    intro k a hk
    obtain ⟨k, rfl⟩ : ∃ j, k = j + 2 := ⟨k - 2, by omega⟩
    rw [call_eq h194 rfl]
    have D : ∀ a many, 0 < many → evalFn Pr gl fuel (k + 1) 44 [.ref n, .int many] (bx S n m a) = .ok (.v (.int (drawV ds a many))) (bx S n m (a + 1)) := fun a many => draw_bx h44 hn ne hm a many
    have D9 := fun a => D a 9 (by decide)
    have D4 := fun a => D a 4 (by decide)
    have D3 := fun a => D a 3 (by decide)
    have D30 := fun a => D a 30 (by decide)
    have D900 := fun a => D a 900 (by decide)
    suffices h : ∃ v a', evalB ⟨evalFn Pr gl fuel (k + 1), gl, fuel⟩ fd__law_value.body (enter fd__law_value [.ref n, .int d]) (bx S n m a) = .rt (.v v) (bx S n m a') ∧ Gen d v by
      obtain ⟨v, a', e, g⟩ := h
      refine ⟨v, a', ?_, g⟩
      rw [e]
      simp only [finR, gc_bx lm (plain_under g.pl)]
    obtain ⟨k0, k1⟩ := drawV_ge (ds := ds) (at_ := a) (many := 9) (by decide)
    by_cases hA : drawV ds a 9 < 3 ∧ 0 < d
    · obtain ⟨e, rfl⟩ : ∃ e, d = e + 1 := ⟨d - 1, by omega⟩
      obtain ⟨c0, c1⟩ := drawV_ge (ds := ds) (at_ := a + 1) (many := 4) (by decide)
      have hr : inRange (drawV ds (a + 1) 4) = true := decide_eq_true (by omega)
      have hd : decide ((0 : Int) < ((e + 1 : Nat) : Int)) = true := decide_eq_true (by omega)
      have he : ((e + 1 : Nat) : Int) - 1 = (e : Int) := by omega
      have L := lc_eval (P := ⟨evalFn Pr gl fuel (k + 1), gl, fuel⟩) (elt := el__law_value_3) (tg := .name 5) (it := .rng1 (.call 44 (.cons (.var 0) (.cons (.int 4) .nil)))) (cond := .no) (own := [5])
        (env := [some (.ref n), some (.int ((e + 1 : Nat) : Int)), some (.int (drawV ds a 9)), none, none, none]) (S := bx S n m (a + 1)) (S1 := bx S n m (a + 2)) (xs := rangeItems 0 (drawV ds (a + 1) 4)) (g := none)
        (by simp only [enter, List.map_cons, List.map_nil, List.length_cons, List.length_nil, List.cons_append, List.nil_append, Nat.reduceAdd, Nat.reduceSub, List.replicate, evalB, evalS, evalE, evalT, evalA, evalR, evalO, evalI, evalC, List.getElem?_cons_zero, List.getElem?_cons_succ, List.set_cons_zero, List.set_cons_succ, bind_ok, st_ok, seq_nx, seq_rt, seq_bk, seq_ct, of_some, ofS_some, ofB_some, bi_int, bi_lenT, bi_lenL, bi_lenR, bi_tupL, bi_tupR, bi_lens, bi_str, bi_ints, bin_add, bin_sub, bin_mul, bin_fdiv, bin_mod, bin_adds, bin_addt, bin_pow, Int.reduceLT, Int.reduceLE, Int.reduceAbs, Nat.reduceLT, Nat.reduceLeDiff, cmpRV, rdSeq, rdList, myList, ixRV, sl_str, isi_int_non, isi_int_bool, isi_int_int, isi_int_str, isi_int_tup, isi_bool_non, isi_bool_bool, isi_bool_int, isi_bool_str, isi_bool_tup, isi_str_non, isi_str_bool, isi_str_int, isi_str_str, isi_str_tup, isi_tuple_non, isi_tuple_bool, isi_tuple_int, isi_tuple_str, isi_tuple_tup, isi_list_non, isi_list_bool, isi_list_int, isi_list_str, isi_list_tup, isi_dict_non, isi_dict_bool, isi_dict_int, isi_dict_str, isi_dict_tup, isn_non, isn_bool, isn_int, isn_str, isn_tup, isb_true_non, isb_true_int, isb_true_str, isb_true_tup, isb_true_true, isb_true_false, isb_false_non, isb_false_int, isb_false_str, isb_false_tup, isb_false_true, isb_false_false, truthy, settle, bindT, bindTs, unpk, recv, isLst, isTxt, sz0, sz1, sz2, sz3, sz4, sz5, sz6, Option.map_some, if_true, if_false, Bool.false_eq_true, eqRV_int, Bool.not_true, Bool.not_false, forget, D4, hr]) (I := fun xs acc S' => ∃ b, S' = bx S n m b ∧ acc.length + xs.length ≤ 3 ∧ ∀ x ∈ acc, Gen e x) ?_ (fun _ _ _ => rfl) ⟨a + 2, rfl, by rw [range_length]; simp; omega, fun x hx => (nomatch hx)⟩
      · obtain ⟨acc, S', h1, b, rfl, h2, h3⟩ := L
        rw [← lc__law_value_4] at h1
        refine ⟨.tup acc, b, ?_, Gen.tup (by simpa using h2) h3⟩
        rw [fd__law_value]
        simp only [enter, List.map_cons, List.map_nil, List.length_cons, List.length_nil, List.cons_append, List.nil_append, Nat.reduceAdd, Nat.reduceSub, List.replicate, evalB, evalS, evalE, evalT, evalA, evalR, evalO, evalI, evalC, List.getElem?_cons_zero, List.getElem?_cons_succ, List.set_cons_zero, List.set_cons_succ, bind_ok, st_ok, seq_nx, seq_rt, seq_bk, seq_ct, of_some, ofS_some, ofB_some, bi_int, bi_lenT, bi_lenL, bi_lenR, bi_tupL, bi_tupR, bi_lens, bi_str, bi_ints, bin_add, bin_sub, bin_mul, bin_fdiv, bin_mod, bin_adds, bin_addt, bin_pow, Int.reduceLT, Int.reduceLE, Int.reduceAbs, Nat.reduceLT, Nat.reduceLeDiff, cmpRV, rdSeq, rdList, myList, ixRV, sl_str, isi_int_non, isi_int_bool, isi_int_int, isi_int_str, isi_int_tup, isi_bool_non, isi_bool_bool, isi_bool_int, isi_bool_str, isi_bool_tup, isi_str_non, isi_str_bool, isi_str_int, isi_str_str, isi_str_tup, isi_tuple_non, isi_tuple_bool, isi_tuple_int, isi_tuple_str, isi_tuple_tup, isi_list_non, isi_list_bool, isi_list_int, isi_list_str, isi_list_tup, isi_dict_non, isi_dict_bool, isi_dict_int, isi_dict_str, isi_dict_tup, isn_non, isn_bool, isn_int, isn_str, isn_tup, isb_true_non, isb_true_int, isb_true_str, isb_true_tup, isb_true_true, isb_true_false, isb_false_non, isb_false_int, isb_false_str, isb_false_tup, isb_false_true, isb_false_false, truthy, settle, bindT, bindTs, unpk, recv, isLst, isTxt, sz0, sz1, sz2, sz3, sz4, sz5, sz6, Option.map_some, if_true, if_false, Bool.false_eq_true, eqRV_int, Bool.not_true, Bool.not_false, forget, D9, decide_eq_true hA.1, hd, h1]
      · rintro x xs acc S2 ⟨b, rfl, h2, h3⟩
        simp only [List.length_cons] at h2
        obtain ⟨v, a', h4, h5⟩ := ih e (by omega) (k + 1) b (by omega)
        refine ⟨rfl, _, _, rfl, .inr ⟨_, .v v, bx S n m a', rfl, ?_, by rw [szl]; omega, a', rfl, by simp; omega, ?_⟩⟩
        · rw [el__law_value_3]
          simp only [enter, List.map_cons, List.map_nil, List.length_cons, List.length_nil, List.cons_append, List.nil_append, Nat.reduceAdd, Nat.reduceSub, List.replicate, evalB, evalS, evalE, evalT, evalA, evalR, evalO, evalI, evalC, List.getElem?_cons_zero, List.getElem?_cons_succ, List.set_cons_zero, List.set_cons_succ, bind_ok, st_ok, seq_nx, seq_rt, seq_bk, seq_ct, of_some, ofS_some, ofB_some, bi_int, bi_lenT, bi_lenL, bi_lenR, bi_tupL, bi_tupR, bi_lens, bi_str, bi_ints, bin_add, bin_sub, bin_mul, bin_fdiv, bin_mod, bin_adds, bin_addt, bin_pow, Int.reduceLT, Int.reduceLE, Int.reduceAbs, Nat.reduceLT, Nat.reduceLeDiff, cmpRV, rdSeq, rdList, myList, ixRV, sl_str, isi_int_non, isi_int_bool, isi_int_int, isi_int_str, isi_int_tup, isi_bool_non, isi_bool_bool, isi_bool_int, isi_bool_str, isi_bool_tup, isi_str_non, isi_str_bool, isi_str_int, isi_str_str, isi_str_tup, isi_tuple_non, isi_tuple_bool, isi_tuple_int, isi_tuple_str, isi_tuple_tup, isi_list_non, isi_list_bool, isi_list_int, isi_list_str, isi_list_tup, isi_dict_non, isi_dict_bool, isi_dict_int, isi_dict_str, isi_dict_tup, isn_non, isn_bool, isn_int, isn_str, isn_tup, isb_true_non, isb_true_int, isb_true_str, isb_true_tup, isb_true_true, isb_true_false, isb_false_non, isb_false_int, isb_false_str, isb_false_tup, isb_false_true, isb_false_false, truthy, settle, bindT, bindTs, unpk, recv, isLst, isTxt, sz0, sz1, sz2, sz3, sz4, sz5, sz6, Option.map_some, if_true, if_false, Bool.false_eq_true, eqRV_int, Bool.not_true, Bool.not_false, forget, he]
          exact h4
        · intro y hy
          rcases List.mem_append.mp hy with h | h
          · exact h3 y h
          · rw [List.mem_singleton.mp h]; exact h5
    · have hA' : (if decide (drawV ds a 9 < 3) = true then (Res.ok (decide ((0 : Int) < (d : Int))) (bx S n m (a + 1)) : Res Bool) else .ok false (bx S n m (a + 1))) = .ok false (bx S n m (a + 1)) := by
        by_cases h1 : drawV ds a 9 < 3
        · rw [if_pos (decide_eq_true h1)]
          have : ¬ (0 : Int) < (d : Int) := fun z => hA ⟨h1, by omega⟩
          rw [decide_eq_false this]
        · rw [if_neg (by rw [decide_eq_false h1]; exact Bool.false_ne_true)]
      by_cases h3 : drawV ds a 9 = 3
      · obtain ⟨c0, c1⟩ := drawV_ge (ds := ds) (at_ := a + 1) (many := 3) (by decide)
        obtain ⟨v, e1, e2⟩ := atI_mem (xs := [PV.non, .bool true, .bool false]) c0 c1
        refine ⟨v, a + 2, ?_, Gen.flat (by simpa using e2)⟩
        rw [fd__law_value]
        simp only [enter, List.map_cons, List.map_nil, List.length_cons, List.length_nil, List.cons_append, List.nil_append, Nat.reduceAdd, Nat.reduceSub, List.replicate, evalB, evalS, evalE, evalT, evalA, evalR, evalO, evalI, evalC, List.getElem?_cons_zero, List.getElem?_cons_succ, List.set_cons_zero, List.set_cons_succ, bind_ok, st_ok, seq_nx, seq_rt, seq_bk, seq_ct, of_some, ofS_some, ofB_some, bi_int, bi_lenT, bi_lenL, bi_lenR, bi_tupL, bi_tupR, bi_lens, bi_str, bi_ints, bin_add, bin_sub, bin_mul, bin_fdiv, bin_mod, bin_adds, bin_addt, bin_pow, Int.reduceLT, Int.reduceLE, Int.reduceAbs, Nat.reduceLT, Nat.reduceLeDiff, cmpRV, rdSeq, rdList, myList, ixRV, sl_str, isi_int_non, isi_int_bool, isi_int_int, isi_int_str, isi_int_tup, isi_bool_non, isi_bool_bool, isi_bool_int, isi_bool_str, isi_bool_tup, isi_str_non, isi_str_bool, isi_str_int, isi_str_str, isi_str_tup, isi_tuple_non, isi_tuple_bool, isi_tuple_int, isi_tuple_str, isi_tuple_tup, isi_list_non, isi_list_bool, isi_list_int, isi_list_str, isi_list_tup, isi_dict_non, isi_dict_bool, isi_dict_int, isi_dict_str, isi_dict_tup, isn_non, isn_bool, isn_int, isn_str, isn_tup, isb_true_non, isb_true_int, isb_true_str, isb_true_tup, isb_true_true, isb_true_false, isb_false_non, isb_false_int, isb_false_str, isb_false_tup, isb_false_true, isb_false_false, truthy, settle, bindT, bindTs, unpk, recv, isLst, isTxt, sz0, sz1, sz2, sz3, sz4, sz5, sz6, Option.map_some, if_true, if_false, Bool.false_eq_true, eqRV_int, Bool.not_true, Bool.not_false, forget, D9, hA', decide_eq_true h3, D3, e1]
      · by_cases h4 : drawV ds a 9 = 4
        · obtain ⟨c0, c1⟩ := drawV_ge (ds := ds) (at_ := a + 1) (many := 900) (by decide)
          obtain ⟨c2, c3⟩ := drawV_ge (ds := ds) (at_ := a + 2) (many := 900) (by decide)
          obtain ⟨c4, c5⟩ := drawV_ge (ds := ds) (at_ := a + 3) (many := 4) (by decide)
          have p16 : ∀ S : Store, binRV .pow (.v (.int 10)) (.v (.int 16)) S = some (.v (.int 10000000000000000)) := fun S => by
            have := bin_pow (S := S) (a := 10) (n := 16) (by decide) (by decide)
            simpa using this
          have p19 : ∀ S : Store, binRV .pow (.v (.int 10)) (.v (.int 19)) S = some (.v (.int 10000000000000000000)) := fun S => by
            have := bin_pow (S := S) (a := 10) (n := 19) (by decide) (by decide)
            simpa using this
          have mm : ∀ z : Int, mulOk z 10000000000000000 = true := fun z => mulOk_r (by decide)
          obtain ⟨v, e1, e2⟩ := atI_mem (xs := [PV.int (drawV ds (a + 1) 900 * 10000000000000000 + drawV ds (a + 2) 900 - 450), .int (0 - (drawV ds (a + 1) 900 * 10000000000000000 + drawV ds (a + 2) 900 - 450)), .int (10000000000000000000 + (drawV ds (a + 1) 900 * 10000000000000000 + drawV ds (a + 2) 900 - 450)), .int 0]) c4 c5
          refine ⟨v, a + 4, ?_, ?_⟩
          · rw [fd__law_value]
            simp only [enter, List.map_cons, List.map_nil, List.length_cons, List.length_nil, List.cons_append, List.nil_append, Nat.reduceAdd, Nat.reduceSub, List.replicate, evalB, evalS, evalE, evalT, evalA, evalR, evalO, evalI, evalC, List.getElem?_cons_zero, List.getElem?_cons_succ, List.set_cons_zero, List.set_cons_succ, bind_ok, st_ok, seq_nx, seq_rt, seq_bk, seq_ct, of_some, ofS_some, ofB_some, bi_int, bi_lenT, bi_lenL, bi_lenR, bi_tupL, bi_tupR, bi_lens, bi_str, bi_ints, bin_add, bin_sub, bin_mul, bin_fdiv, bin_mod, bin_adds, bin_addt, bin_pow, Int.reduceLT, Int.reduceLE, Int.reduceAbs, Nat.reduceLT, Nat.reduceLeDiff, cmpRV, rdSeq, rdList, myList, ixRV, sl_str, isi_int_non, isi_int_bool, isi_int_int, isi_int_str, isi_int_tup, isi_bool_non, isi_bool_bool, isi_bool_int, isi_bool_str, isi_bool_tup, isi_str_non, isi_str_bool, isi_str_int, isi_str_str, isi_str_tup, isi_tuple_non, isi_tuple_bool, isi_tuple_int, isi_tuple_str, isi_tuple_tup, isi_list_non, isi_list_bool, isi_list_int, isi_list_str, isi_list_tup, isi_dict_non, isi_dict_bool, isi_dict_int, isi_dict_str, isi_dict_tup, isn_non, isn_bool, isn_int, isn_str, isn_tup, isb_true_non, isb_true_int, isb_true_str, isb_true_tup, isb_true_true, isb_true_false, isb_false_non, isb_false_int, isb_false_str, isb_false_tup, isb_false_true, isb_false_false, truthy, settle, bindT, bindTs, unpk, recv, isLst, isTxt, sz0, sz1, sz2, sz3, sz4, sz5, sz6, Option.map_some, if_true, if_false, Bool.false_eq_true, eqRV_int, Bool.not_true, Bool.not_false, forget, D9, hA', decide_eq_false h3, decide_eq_true h4, D900, D4, p16, p19, mm, e1]
          · simp only [List.mem_cons, List.not_mem_nil, or_false] at e2
            rcases e2 with rfl | rfl | rfl | rfl <;> exact Gen.int (by omega)
        · by_cases h5 : drawV ds a 9 = 5
          · obtain ⟨c0, c1⟩ := drawV_ge (ds := ds) (at_ := a + 1) (many := 30) (by decide)
            refine ⟨.int (drawV ds (a + 1) 30 - 15), a + 2, ?_, Gen.int (by omega)⟩
            rw [fd__law_value]
            simp only [enter, List.map_cons, List.map_nil, List.length_cons, List.length_nil, List.cons_append, List.nil_append, Nat.reduceAdd, Nat.reduceSub, List.replicate, evalB, evalS, evalE, evalT, evalA, evalR, evalO, evalI, evalC, List.getElem?_cons_zero, List.getElem?_cons_succ, List.set_cons_zero, List.set_cons_succ, bind_ok, st_ok, seq_nx, seq_rt, seq_bk, seq_ct, of_some, ofS_some, ofB_some, bi_int, bi_lenT, bi_lenL, bi_lenR, bi_tupL, bi_tupR, bi_lens, bi_str, bi_ints, bin_add, bin_sub, bin_mul, bin_fdiv, bin_mod, bin_adds, bin_addt, bin_pow, Int.reduceLT, Int.reduceLE, Int.reduceAbs, Nat.reduceLT, Nat.reduceLeDiff, cmpRV, rdSeq, rdList, myList, ixRV, sl_str, isi_int_non, isi_int_bool, isi_int_int, isi_int_str, isi_int_tup, isi_bool_non, isi_bool_bool, isi_bool_int, isi_bool_str, isi_bool_tup, isi_str_non, isi_str_bool, isi_str_int, isi_str_str, isi_str_tup, isi_tuple_non, isi_tuple_bool, isi_tuple_int, isi_tuple_str, isi_tuple_tup, isi_list_non, isi_list_bool, isi_list_int, isi_list_str, isi_list_tup, isi_dict_non, isi_dict_bool, isi_dict_int, isi_dict_str, isi_dict_tup, isn_non, isn_bool, isn_int, isn_str, isn_tup, isb_true_non, isb_true_int, isb_true_str, isb_true_tup, isb_true_true, isb_true_false, isb_false_non, isb_false_int, isb_false_str, isb_false_tup, isb_false_true, isb_false_false, truthy, settle, bindT, bindTs, unpk, recv, isLst, isTxt, sz0, sz1, sz2, sz3, sz4, sz5, sz6, Option.map_some, if_true, if_false, Bool.false_eq_true, eqRV_int, Bool.not_true, Bool.not_false, forget, D9, hA', decide_eq_false h3, decide_eq_false h4, decide_eq_true h5, D30]
          · obtain ⟨c0, c1⟩ := drawV_ge (ds := ds) (at_ := a + 1) (many := 9) (by decide)
            have hr : inRange (drawV ds (a + 1) 9) = true := decide_eq_true (by omega)
            have la : alpha.length = 45 := by decide +kernel
            have L := lc_eval (P := ⟨evalFn Pr gl fuel (k + 1), gl, fuel⟩) (elt := el__law_value_1) (tg := .name 5) (it := .rng1 (.call 44 (.cons (.var 0) (.cons (.int 9) .nil)))) (cond := .no) (own := [5])
              (env := [some (.ref n), some (.int d), some (.int (drawV ds a 9)), some (.str alpha), none, none]) (S := bx S n m (a + 1)) (S1 := bx S n m (a + 2)) (xs := rangeItems 0 (drawV ds (a + 1) 9)) (g := none)
              (by simp only [enter, List.map_cons, List.map_nil, List.length_cons, List.length_nil, List.cons_append, List.nil_append, Nat.reduceAdd, Nat.reduceSub, List.replicate, evalB, evalS, evalE, evalT, evalA, evalR, evalO, evalI, evalC, List.getElem?_cons_zero, List.getElem?_cons_succ, List.set_cons_zero, List.set_cons_succ, bind_ok, st_ok, seq_nx, seq_rt, seq_bk, seq_ct, of_some, ofS_some, ofB_some, bi_int, bi_lenT, bi_lenL, bi_lenR, bi_tupL, bi_tupR, bi_lens, bi_str, bi_ints, bin_add, bin_sub, bin_mul, bin_fdiv, bin_mod, bin_adds, bin_addt, bin_pow, Int.reduceLT, Int.reduceLE, Int.reduceAbs, Nat.reduceLT, Nat.reduceLeDiff, cmpRV, rdSeq, rdList, myList, ixRV, sl_str, isi_int_non, isi_int_bool, isi_int_int, isi_int_str, isi_int_tup, isi_bool_non, isi_bool_bool, isi_bool_int, isi_bool_str, isi_bool_tup, isi_str_non, isi_str_bool, isi_str_int, isi_str_str, isi_str_tup, isi_tuple_non, isi_tuple_bool, isi_tuple_int, isi_tuple_str, isi_tuple_tup, isi_list_non, isi_list_bool, isi_list_int, isi_list_str, isi_list_tup, isi_dict_non, isi_dict_bool, isi_dict_int, isi_dict_str, isi_dict_tup, isn_non, isn_bool, isn_int, isn_str, isn_tup, isb_true_non, isb_true_int, isb_true_str, isb_true_tup, isb_true_true, isb_true_false, isb_false_non, isb_false_int, isb_false_str, isb_false_tup, isb_false_true, isb_false_false, truthy, settle, bindT, bindTs, unpk, recv, isLst, isTxt, sz0, sz1, sz2, sz3, sz4, sz5, sz6, Option.map_some, if_true, if_false, Bool.false_eq_true, eqRV_int, Bool.not_true, Bool.not_false, forget, D9, hr]) (I := fun xs acc S' => ∃ b, S' = bx S n m b ∧ acc.length + xs.length ≤ 8 ∧ ∃ ys : List Str, acc = ys.map .str ∧ ∀ y ∈ ys, (tl y).length = 1) ?_ (fun _ _ _ => rfl) ⟨a + 2, rfl, by rw [range_length]; simp; omega, [], rfl, fun x hx => (nomatch hx)⟩
            · obtain ⟨acc, S', h1, b, rfl, h2, ys, rfl, h6⟩ := L
              rw [← lc__law_value_2] at h1
              have hy : ys.length ≤ 8 := by simpa using h2
              have hs : ∀ ys : List Str, (∀ y ∈ ys, (tl y).length = 1) → (ys.map (·.length)).sum = ys.length := by
                intro ys
                induction ys with
                | nil => intro _; rfl
                | cons y ys ih =>
                  intro h
                  have h1 := h y List.mem_cons_self
                  have := ih fun z hz => h z (List.mem_cons_of_mem _ hz)
                  rw [List.map_cons, List.sum_cons, this, len_tl, h1, List.length_cons]
                  omega
              have jk : joinOk "" ys = true := decide_eq_true (by
                rw [hs ys h6, show ("" : Str).length = 0 from rfl]
                omega)
              refine ⟨.str (Txt.join "" ys), b, ?_, Gen.str ?_⟩
              · rw [fd__law_value]
                rw [alpha] at h1
                simp only [enter, List.map_cons, List.map_nil, List.length_cons, List.length_nil, List.cons_append, List.nil_append, Nat.reduceAdd, Nat.reduceSub, List.replicate, evalB, evalS, evalE, evalT, evalA, evalR, evalO, evalI, evalC, List.getElem?_cons_zero, List.getElem?_cons_succ, List.set_cons_zero, List.set_cons_succ, bind_ok, st_ok, seq_nx, seq_rt, seq_bk, seq_ct, of_some, ofS_some, ofB_some, bi_int, bi_lenT, bi_lenL, bi_lenR, bi_tupL, bi_tupR, bi_lens, bi_str, bi_ints, bin_add, bin_sub, bin_mul, bin_fdiv, bin_mod, bin_adds, bin_addt, bin_pow, Int.reduceLT, Int.reduceLE, Int.reduceAbs, Nat.reduceLT, Nat.reduceLeDiff, cmpRV, rdSeq, rdList, myList, ixRV, sl_str, isi_int_non, isi_int_bool, isi_int_int, isi_int_str, isi_int_tup, isi_bool_non, isi_bool_bool, isi_bool_int, isi_bool_str, isi_bool_tup, isi_str_non, isi_str_bool, isi_str_int, isi_str_str, isi_str_tup, isi_tuple_non, isi_tuple_bool, isi_tuple_int, isi_tuple_str, isi_tuple_tup, isi_list_non, isi_list_bool, isi_list_int, isi_list_str, isi_list_tup, isi_dict_non, isi_dict_bool, isi_dict_int, isi_dict_str, isi_dict_tup, isn_non, isn_bool, isn_int, isn_str, isn_tup, isb_true_non, isb_true_int, isb_true_str, isb_true_tup, isb_true_true, isb_true_false, isb_false_non, isb_false_int, isb_false_str, isb_false_tup, isb_false_true, isb_false_false, truthy, settle, bindT, bindTs, unpk, recv, isLst, isTxt, sz0, sz1, sz2, sz3, sz4, sz5, sz6, Option.map_some, if_true, if_false, Bool.false_eq_true, eqRV_int, Bool.not_true, Bool.not_false, forget, D9, hA', decide_eq_false h3, decide_eq_false h4, decide_eq_false h5, h1, me_joinL jk]
              · rw [join_eq, tl_join]
                have := joinL_len (S := tl "") (ys.map tl) 1 (by
                  intro p hp
                  obtain ⟨y, hy, rfl⟩ := List.mem_map.mp hp
                  exact Nat.le_of_eq (h6 y hy))
                rw [List.length_map, show (tl "").length = 0 from rfl] at this
                omega
            · rintro x xs acc S2 ⟨b, rfl, h2, ys, rfl, h6⟩
              simp only [List.length_cons] at h2
              have hm0 : 0 ≤ drawV ds b 900 % 45 := Int.emod_nonneg _ (by decide)
              have hm1 : drawV ds b 900 % 45 < 45 := Int.emod_lt_of_pos _ (by decide)
              obtain ⟨c, e1, _⟩ := atI_mem (xs := alpha.cps.toList) hm0 (by
                have : (alpha.cps.toList.length) = alpha.length := by simp [Str.length]
                rw [this, la]; exact hm1)
              refine ⟨rfl, _, _, rfl, .inr ⟨_, .v (.str ⟨#[c]⟩), bx S n m (b + 1), rfl, ?_, by rw [szl]; omega, b + 1, rfl, ?_, ys ++ [⟨#[c]⟩], by simp [settle], ?_⟩⟩
              · rw [el__law_value_1]
                have lb : alpha.length ≤ sizeLine := by rw [la]; decide
                have bl : ∀ S, biRV .len [.v (.str alpha)] S = some (.v (.int 45)) := fun S => by rw [bi_lens lb, la]; rfl
                have ia : ∀ i S, ixRV (.v (.str alpha)) (.v (.int i)) S = (atI alpha.cps.toList i).map fun c => .v (.str ⟨#[c]⟩) := fun i S => ix_str lb
                simp only [enter, List.map_cons, List.map_nil, List.length_cons, List.length_nil, List.cons_append, List.nil_append, Nat.reduceAdd, Nat.reduceSub, List.replicate, evalB, evalS, evalE, evalT, evalA, evalR, evalO, evalI, evalC, List.getElem?_cons_zero, List.getElem?_cons_succ, List.set_cons_zero, List.set_cons_succ, bind_ok, st_ok, seq_nx, seq_rt, seq_bk, seq_ct, of_some, ofS_some, ofB_some, bi_int, bi_lenT, bi_lenL, bi_lenR, bi_tupL, bi_tupR, bi_lens, bi_str, bi_ints, bin_add, bin_sub, bin_mul, bin_fdiv, bin_mod, bin_adds, bin_addt, bin_pow, Int.reduceLT, Int.reduceLE, Int.reduceAbs, Nat.reduceLT, Nat.reduceLeDiff, cmpRV, rdSeq, rdList, myList, ix_str, sl_str, isi_int_non, isi_int_bool, isi_int_int, isi_int_str, isi_int_tup, isi_bool_non, isi_bool_bool, isi_bool_int, isi_bool_str, isi_bool_tup, isi_str_non, isi_str_bool, isi_str_int, isi_str_str, isi_str_tup, isi_tuple_non, isi_tuple_bool, isi_tuple_int, isi_tuple_str, isi_tuple_tup, isi_list_non, isi_list_bool, isi_list_int, isi_list_str, isi_list_tup, isi_dict_non, isi_dict_bool, isi_dict_int, isi_dict_str, isi_dict_tup, isn_non, isn_bool, isn_int, isn_str, isn_tup, isb_true_non, isb_true_int, isb_true_str, isb_true_tup, isb_true_true, isb_true_false, isb_false_non, isb_false_int, isb_false_str, isb_false_tup, isb_false_true, isb_false_false, truthy, settle, bindT, bindTs, unpk, recv, isLst, isTxt, sz0, sz1, sz2, sz3, sz4, sz5, sz6, Option.map_some, if_true, if_false, Bool.false_eq_true, eqRV_int, Bool.not_true, Bool.not_false, forget, D900, bl, ia, e1]
              · simp [settle]; simp at h2; omega
              · intro y hy
                rcases List.mem_append.mp hy with h | h
                · exact h6 y h
                · rw [List.mem_singleton.mp h]; rfl
end
end Deep

set_option Elab.async false
set_option linter.all false
set_option maxRecDepth 100000
set_option maxHeartbeats 1000000
namespace Deep
open PySem PySem.Spec PyProof.Rows L2 PySem.StrLaws TL
def mkT (l : List Nat) : Str := ⟨l.toArray⟩
theorem tl_mkT (l : List Nat) : tl (mkT l) = l := rfl
def T (v : PV) : Str := mkT (pT v)
theorem len_T (v : PV) : (T v).length = (pT v).length := by rw [len_tl]; rfl
/-! ### escaped texts -/
def escR : List (Str × Str) := [("\n", "\\n"), ("\"", "\\\""), ("\\", "\\\\")]
theorem fm3 (l : List Nat) : ((l.flatMap fun a => if a = 92 then [92, 92] else [a]).flatMap fun a => if a = 34 then [92, 34] else [a]).flatMap (fun a => if a = 10 then [92, 110] else [a]) = escL l := by
  unfold escL
  rw [List.flatMap_assoc, List.flatMap_assoc]
  congr 1
  funext c
  by_cases h1 : c = 92
  · subst h1; rfl
  · by_cases h2 : c = 34
    · subst h2; rfl
    · by_cases h3 : c = 10
      · subst h3; rfl
      · simp [h1, h2, h3]
theorem rep_len {x y z : Str} {c : Nat} {n : Nat} (hy : tl y = [c]) (hz : (tl z).length = 2) (h : x.length ≤ n) : (Txt.replace x y z).length ≤ 2 * n := by
  rw [len_tl, tl_replace1 hy]
  rw [len_tl] at h
  have : ∀ l : List Nat, (l.flatMap fun a => if a = c then tl z else [a]).length ≤ 2 * l.length := by
    intro l
    induction l with
    | nil => exact Nat.le_refl _
    | cons a l ih =>
      rw [List.flatMap_cons, List.length_append, List.length_cons]
      split
      · rw [hz]; omega
      · rw [show ([a] : List Nat).length = 1 from rfl]; omega
  have := this (tl x)
  omega
theorem esc_ok {z : Str} (h : z.length ≤ 100000) : replAll escR z = some (mkT (escL (tl z))) := by
  have e0 : replAll [] z = some z := rfl
  have e1 := repl_cons (y := "\\") (z := "\\\\") e0 (decide_eq_true (by
    rw [show ("\\\\" : Str).length = 2 from rfl]; omega))
  have l1 := rep_len (x := z) (y := "\\") (z := "\\\\") (c := 92) rfl rfl h
  have e2 := repl_cons (y := "\"") (z := "\\\"") e1 (decide_eq_true (by
    rw [show ("\\\"" : Str).length = 2 from rfl]; omega))
  have l2 := rep_len (x := Txt.replace z "\\" "\\\\") (y := "\"") (z := "\\\"") (c := 34) rfl rfl l1
  have e3 := repl_cons (y := "\n") (z := "\\n") e2 (decide_eq_true (by
    rw [show ("\\n" : Str).length = 2 from rfl]; omega))
  unfold escR
  rw [e3]
  congr 1
  apply ext_tl
  rw [tl_replace1 (c := 10) rfl, tl_replace1 (c := 34) rfl, tl_replace1 (c := 92) rfl]
  exact fm3 (tl z)
section
variable {Pr : Prog} {gl : Nat → Option PV} {fuel : Nat} {S : Store}
theorem cat2 {z : Str} : (("\"" : Str) ++ mkT (escL (tl z))) ++ ("\"" : Str) = T (.str z) := by
  apply ext_tl
  rw [tl_append, tl_append]
  show [34] ++ escL (tl z) ++ [34] = 34 :: (escL (tl z) ++ [34])
  simp
theorem quote_ev {P : Par} {env : PEnv} {z : Str} (h0 : env[0]? = some (some (.str z))) (h : z.length ≤ 100000) :
    evalE P (.bin .add (.repl "\"" (.var 0) [("\n", "\\n"), ("\"", "\\\""), ("\\", "\\\\")]) (.str "\"")) env S = .ok (.v (.str (T (.str z)))) S := by
  have e := esc_ok h
  unfold escR at e
  have hl : (mkT (escL (tl z))).length ≤ 200000 := by
    have := escL_len (tl z)
    rw [len_tl, tl_mkT]
    rw [len_tl] at h
    omega
  have h1 : ("\"" : Str).length + (mkT (escL (tl z))).length ≤ sizeLine := by
    rw [show ("\"" : Str).length = 1 from rfl, szl]; omega
  have h2 : (("\"" : Str) ++ mkT (escL (tl z))).length + ("\"" : Str).length ≤ sizeLine := by
    rw [len_tl, tl_append, List.length_append, ← len_tl, ← len_tl, show ("\"" : Str).length = 1 from rfl, szl]; omega
  simp only [evalE, h0, bind_ok, e]
  rw [if_pos h1, bind_ok, bin_adds h2, of_some, cat2]
theorem quoted_ok {k : Nat} (h : Pr 445 = some fd_quoted) {z : Str} (hz : z.length ≤ 100000) : evalFn Pr gl fuel (k + 1) 445 [.str z] S = .ok (.v (.str (T (.str z)))) S := by
  rw [call_eq h rfl]
  have e := quote_ev (P := ⟨evalFn Pr gl fuel k, gl, fuel⟩) (S := S) (env := enter fd_quoted [.str z]) (z := z) rfl hz
  have : evalB ⟨evalFn Pr gl fuel k, gl, fuel⟩ fd_quoted.body (enter fd_quoted [.str z]) S = .rt (.v (.str (T (.str z)))) S := by
    rw [show fd_quoted.body = .cons (.ret (.bin .add (.repl "\"" (.var 0) [("\n", "\\n"), ("\"", "\\\""), ("\\", "\\\\")]) (.str "\""))) .nil from rfl, evalB, evalS, e]
    rfl
  rw [this]
  simp only [finR, gc_v0 (x := .str _) rfl]
/-! ### sizes -/
theorem pT_ne : ∀ {v : PV}, plain v = true → 1 ≤ (pT v).length
  | .non, _ => Nat.le_refl _
  | .bool true, _ => Nat.le_refl _
  | .bool false, _ => Nat.le_refl _
  | .int (.ofNat n), _ => by
    have := numL_ne n
    show 1 ≤ (numL n).length
    cases h : numL n with
    | nil => exact absurd h this
    | cons c r => simp
  | .int (.negSucc n), _ => by show 1 ≤ (45 :: numL (n + 1)).length; simp
  | .str z, _ => by show 1 ≤ (34 :: _).length; simp
  | .tup xs, _ => by show 1 ≤ (40 :: _).length; simp
theorem joinL_sum {S : List Nat} : ∀ ps : List (List Nat), (ps.map (·.length)).sum ≤ (joinL S ps).length
  | [] => Nat.zero_le _
  | [p] => by show p.length + 0 ≤ p.length; omega
  | p :: q :: r => by
    have ih := joinL_sum (S := S) (q :: r)
    have e : joinL S (p :: q :: r) = p ++ (S ++ joinL S (q :: r)) := rfl
    rw [e, List.length_append, List.length_append, List.map_cons, List.sum_cons]
    omega
theorem sum_ge : ∀ (ps : List (List Nat)), (∀ p ∈ ps, 1 ≤ p.length) → ps.length ≤ (ps.map (·.length)).sum
  | [], _ => Nat.le_refl _
  | p :: ps, h => by
    have := h p List.mem_cons_self
    have := sum_ge ps fun q hq => h q (List.mem_cons_of_mem _ hq)
    rw [List.map_cons, List.sum_cons, List.length_cons]
    omega
theorem tup_sizes {xs : List PV} (hp : plain (.tup xs) = true) : xs.length + 2 ≤ (pT (.tup xs)).length ∧ ((xs.map T).map (·.length)).sum + 2 ≤ (pT (.tup xs)).length ∧ ∀ x ∈ xs, (pT x).length + 2 ≤ (pT (.tup xs)).length := by
  have e : (pT (.tup xs)).length = (joinL [32] (pTL xs)).length + 2 := by
    show (40 :: (joinL [32] (pTL xs) ++ [41])).length = _
    simp
  have h1 := joinL_sum (S := [32]) (pTL xs)
  have h2 := sum_ge (pTL xs) (by
    rw [pTL_map]
    intro p h
    obtain ⟨x, hx, rfl⟩ := List.mem_map.mp h
    exact pT_ne (plainL_all.mp hp x hx))
  have e2 : (pTL xs).length = xs.length := by rw [pTL_map, List.length_map]
  have e3 : ((xs.map T).map (·.length)).sum = ((pTL xs).map (·.length)).sum := by
    rw [pTL_map, List.map_map, List.map_map]
    exact congrArg List.sum (List.map_congr_left fun x _ => len_T x)
  refine ⟨by omega, by omega, fun x hx => ?_⟩
  have : (pT x).length ≤ ((pTL xs).map (·.length)).sum := by
    rw [pTL_map, List.map_map]
    have : ∀ l : List PV, x ∈ l → (pT x).length ≤ (l.map ((·.length) ∘ pT)).sum := by
      intro l
      induction l with
      | nil => intro h; cases h
      | cons y l ih =>
        intro h
        rw [List.map_cons, List.sum_cons]
        rcases List.mem_cons.mp h with rfl | h
        · show _ ≤ (pT x).length + _; omega
        · have := ih h; omega
    exact this xs hx
  omega
theorem log_ok {i : Int} (h : i.natAbs < 10 ^ 20) : i.natAbs.log2 < 1920 := by
  by_cases h0 : i.natAbs = 0
  · rw [h0]; decide
  · rw [Nat.log2_lt h0]
    exact Nat.lt_of_lt_of_le (Nat.lt_trans h (show 10 ^ 20 < 2 ^ 67 by decide)) (Nat.pow_le_pow_right (by decide) (by decide))
theorem T_int (i : Int) : Str.ofString (toString i) = T (.int i) := ext_tl (tl_int i)
theorem T_tup {xs : List PV} : ("(" : Str) ++ Txt.join " " (xs.map T) ++ (")" : Str) = T (.tup xs) := by
  apply ext_tl
  rw [tl_append, tl_append, join_eq, tl_join, List.map_map]
  show [40] ++ joinL [32] (xs.map (tl ∘ T)) ++ [41] = 40 :: (joinL [32] (pTL xs) ++ [41])
  rw [pTL_map]
  simp
  rfl
theorem tup_ev {P : Par} {env : PEnv} {lc : E} {xs : List PV} (e : evalE P lc env S = .ok (.lst (xs.map fun x => .str (T x))) S) (hp : plain (.tup xs) = true) (hl : (pT (.tup xs)).length ≤ 100000) :
    evalE P (.bin .add (.bin .add (.str "(") (.meth .join (.str " ") (.cons lc .nil))) (.str ")")) env S = .ok (.v (.str (T (.tup xs)))) S := by
  obtain ⟨s1, s2, _⟩ := tup_sizes hp
  have m : (xs.map fun x => PV.str (T x)) = (xs.map T).map .str := by rw [List.map_map]; rfl
  have jk : joinOk " " (xs.map T) = true := decide_eq_true (by
    rw [show (" " : Str).length = 1 from rfl, List.length_map]
    omega)
  have ll : (("(" : Str) ++ Txt.join " " (xs.map T)).length + (")" : Str).length = (pT (.tup xs)).length := by
    rw [← len_T, ← T_tup, len_tl, len_tl, len_tl]
    rw [tl_append _ ")", List.length_append]
  have l1 : ("(" : Str).length + (Txt.join " " (xs.map T)).length + 1 = (pT (.tup xs)).length := by
    rw [← ll, len_tl, len_tl, len_tl ("(" ++ _), tl_append, List.length_append]
    rfl
  simp only [evalE, evalR, bind_ok, recv, isTxt, if_true, e, m, me_joinL jk, ofS_some]
  rw [bin_adds (by rw [szl]; omega), of_some, bind_ok, bin_adds (by rw [szl]; omega), of_some, T_tup]
theorem str_len {z : Str} (hl : (pT (.str z)).length ≤ 100000) : z.length ≤ 100000 := by
  have : (tl z).length ≤ (escL (tl z)).length := by
    have : ∀ l : List Nat, l.length ≤ (escL l).length := by
      intro l
      induction l with
      | nil => exact Nat.le_refl _
      | cons c l ih =>
        have e : escL (c :: l) = (if c = 92 then [92, 92] else if c = 34 then [92, 34] else if c = 10 then [92, 110] else [c]) ++ escL l := rfl
        rw [e, List.length_append, List.length_cons]
        have : 1 ≤ (if c = 92 then [92, 92] else if c = 34 then [92, 34] else if c = 10 then [92, 110] else [c]).length := by
          split
          · decide
          · split
            · decide
            · split
              · decide
              · exact Nat.le_refl _
        omega
    exact this _
  have hl : (34 :: (escL (tl z) ++ [34])).length ≤ 100000 := hl
  simp at hl
  rw [len_tl]; omega
/-- the law's own text of a value -/
theorem plain_ok (h : Pr 123 = some fd__law_plain) : ∀ (d : Nat) (v : PV) (k : Nat), nest v ≤ d → d + 1 ≤ k → plain v = true → (pT v).length ≤ 100000 → evalFn Pr gl fuel k 123 [v] S = .ok (.v (.str (T v))) S := by
  intro d
  induction d using Nat.strongRecOn with
  | _ d ih =>
    intro v k hn hk hp hl
    obtain ⟨k, rfl⟩ : ∃ j, k = j + 1 := ⟨k - 1, by omega⟩
    rw [call_eq h rfl]
    suffices g : evalB ⟨evalFn Pr gl fuel k, gl, fuel⟩ fd__law_plain.body (enter fd__law_plain [v]) S = .rt (.v (.str (T v))) S by
      rw [g]
      simp only [finR, gc_v0 (x := .str _) rfl]
    cases v with
    | non => simp only [fd__law_plain, enter, List.map_cons, List.map_nil, List.length_cons, List.length_nil, List.cons_append, List.nil_append, Nat.reduceAdd, Nat.reduceSub, List.replicate, evalB, evalS, evalE, evalT, evalA, evalR, evalO, evalI, evalC, List.getElem?_cons_zero, List.getElem?_cons_succ, List.set_cons_zero, List.set_cons_succ, bind_ok, st_ok, seq_nx, seq_rt, seq_bk, seq_ct, of_some, ofS_some, ofB_some, bi_int, bi_lenT, bi_lenL, bi_lenR, bi_tupL, bi_tupR, bi_lens, bi_str, bi_ints, bin_add, bin_sub, bin_mul, bin_fdiv, bin_mod, bin_adds, bin_addt, bin_pow, Int.reduceLT, Int.reduceLE, Int.reduceAbs, Nat.reduceLT, Nat.reduceLeDiff, cmpRV, rdSeq, rdList, myList, ixRV, sl_str, isi_int_non, isi_int_bool, isi_int_int, isi_int_str, isi_int_tup, isi_bool_non, isi_bool_bool, isi_bool_int, isi_bool_str, isi_bool_tup, isi_str_non, isi_str_bool, isi_str_int, isi_str_str, isi_str_tup, isi_tuple_non, isi_tuple_bool, isi_tuple_int, isi_tuple_str, isi_tuple_tup, isi_list_non, isi_list_bool, isi_list_int, isi_list_str, isi_list_tup, isi_dict_non, isi_dict_bool, isi_dict_int, isi_dict_str, isi_dict_tup, isn_non, isn_bool, isn_int, isn_str, isn_tup, isb_true_non, isb_true_int, isb_true_str, isb_true_tup, isb_true_true, isb_true_false, isb_false_non, isb_false_int, isb_false_str, isb_false_tup, isb_false_true, isb_false_false, truthy, settle, bindT, bindTs, unpk, recv, isLst, isTxt, sz0, sz1, sz2, sz3, sz4, sz5, sz6, Option.map_some, if_true, if_false, Bool.false_eq_true, eqRV_int, Bool.not_true, Bool.not_false, forget]; rfl
    | bool b =>
      cases b
      · simp only [fd__law_plain, enter, List.map_cons, List.map_nil, List.length_cons, List.length_nil, List.cons_append, List.nil_append, Nat.reduceAdd, Nat.reduceSub, List.replicate, evalB, evalS, evalE, evalT, evalA, evalR, evalO, evalI, evalC, List.getElem?_cons_zero, List.getElem?_cons_succ, List.set_cons_zero, List.set_cons_succ, bind_ok, st_ok, seq_nx, seq_rt, seq_bk, seq_ct, of_some, ofS_some, ofB_some, bi_int, bi_lenT, bi_lenL, bi_lenR, bi_tupL, bi_tupR, bi_lens, bi_str, bi_ints, bin_add, bin_sub, bin_mul, bin_fdiv, bin_mod, bin_adds, bin_addt, bin_pow, Int.reduceLT, Int.reduceLE, Int.reduceAbs, Nat.reduceLT, Nat.reduceLeDiff, cmpRV, rdSeq, rdList, myList, ixRV, sl_str, isi_int_non, isi_int_bool, isi_int_int, isi_int_str, isi_int_tup, isi_bool_non, isi_bool_bool, isi_bool_int, isi_bool_str, isi_bool_tup, isi_str_non, isi_str_bool, isi_str_int, isi_str_str, isi_str_tup, isi_tuple_non, isi_tuple_bool, isi_tuple_int, isi_tuple_str, isi_tuple_tup, isi_list_non, isi_list_bool, isi_list_int, isi_list_str, isi_list_tup, isi_dict_non, isi_dict_bool, isi_dict_int, isi_dict_str, isi_dict_tup, isn_non, isn_bool, isn_int, isn_str, isn_tup, isb_true_non, isb_true_int, isb_true_str, isb_true_tup, isb_true_true, isb_true_false, isb_false_non, isb_false_int, isb_false_str, isb_false_tup, isb_false_true, isb_false_false, truthy, settle, bindT, bindTs, unpk, recv, isLst, isTxt, sz0, sz1, sz2, sz3, sz4, sz5, sz6, Option.map_some, if_true, if_false, Bool.false_eq_true, eqRV_int, Bool.not_true, Bool.not_false, forget]; rfl
      · simp only [fd__law_plain, enter, List.map_cons, List.map_nil, List.length_cons, List.length_nil, List.cons_append, List.nil_append, Nat.reduceAdd, Nat.reduceSub, List.replicate, evalB, evalS, evalE, evalT, evalA, evalR, evalO, evalI, evalC, List.getElem?_cons_zero, List.getElem?_cons_succ, List.set_cons_zero, List.set_cons_succ, bind_ok, st_ok, seq_nx, seq_rt, seq_bk, seq_ct, of_some, ofS_some, ofB_some, bi_int, bi_lenT, bi_lenL, bi_lenR, bi_tupL, bi_tupR, bi_lens, bi_str, bi_ints, bin_add, bin_sub, bin_mul, bin_fdiv, bin_mod, bin_adds, bin_addt, bin_pow, Int.reduceLT, Int.reduceLE, Int.reduceAbs, Nat.reduceLT, Nat.reduceLeDiff, cmpRV, rdSeq, rdList, myList, ixRV, sl_str, isi_int_non, isi_int_bool, isi_int_int, isi_int_str, isi_int_tup, isi_bool_non, isi_bool_bool, isi_bool_int, isi_bool_str, isi_bool_tup, isi_str_non, isi_str_bool, isi_str_int, isi_str_str, isi_str_tup, isi_tuple_non, isi_tuple_bool, isi_tuple_int, isi_tuple_str, isi_tuple_tup, isi_list_non, isi_list_bool, isi_list_int, isi_list_str, isi_list_tup, isi_dict_non, isi_dict_bool, isi_dict_int, isi_dict_str, isi_dict_tup, isn_non, isn_bool, isn_int, isn_str, isn_tup, isb_true_non, isb_true_int, isb_true_str, isb_true_tup, isb_true_true, isb_true_false, isb_false_non, isb_false_int, isb_false_str, isb_false_tup, isb_false_true, isb_false_false, truthy, settle, bindT, bindTs, unpk, recv, isLst, isTxt, sz0, sz1, sz2, sz3, sz4, sz5, sz6, Option.map_some, if_true, if_false, Bool.false_eq_true, eqRV_int, Bool.not_true, Bool.not_false, forget]; rfl
    | int i =>
      have := log_ok (of_decide_eq_true hp)
      simp only [fd__law_plain, enter, List.map_cons, List.map_nil, List.length_cons, List.length_nil, List.cons_append, List.nil_append, Nat.reduceAdd, Nat.reduceSub, List.replicate, evalB, evalS, evalE, evalT, evalA, evalR, evalO, evalI, evalC, List.getElem?_cons_zero, List.getElem?_cons_succ, List.set_cons_zero, List.set_cons_succ, bind_ok, st_ok, seq_nx, seq_rt, seq_bk, seq_ct, of_some, ofS_some, ofB_some, bi_int, bi_lenT, bi_lenL, bi_lenR, bi_tupL, bi_tupR, bi_lens, bi_str, bi_ints, bin_add, bin_sub, bin_mul, bin_fdiv, bin_mod, bin_adds, bin_addt, bin_pow, Int.reduceLT, Int.reduceLE, Int.reduceAbs, Nat.reduceLT, Nat.reduceLeDiff, cmpRV, rdSeq, rdList, myList, ixRV, sl_str, isi_int_non, isi_int_bool, isi_int_int, isi_int_str, isi_int_tup, isi_bool_non, isi_bool_bool, isi_bool_int, isi_bool_str, isi_bool_tup, isi_str_non, isi_str_bool, isi_str_int, isi_str_str, isi_str_tup, isi_tuple_non, isi_tuple_bool, isi_tuple_int, isi_tuple_str, isi_tuple_tup, isi_list_non, isi_list_bool, isi_list_int, isi_list_str, isi_list_tup, isi_dict_non, isi_dict_bool, isi_dict_int, isi_dict_str, isi_dict_tup, isn_non, isn_bool, isn_int, isn_str, isn_tup, isb_true_non, isb_true_int, isb_true_str, isb_true_tup, isb_true_true, isb_true_false, isb_false_non, isb_false_int, isb_false_str, isb_false_tup, isb_false_true, isb_false_false, truthy, settle, bindT, bindTs, unpk, recv, isLst, isTxt, sz0, sz1, sz2, sz3, sz4, sz5, sz6, Option.map_some, if_true, if_false, Bool.false_eq_true, eqRV_int, Bool.not_true, Bool.not_false, forget, this, T_int]
    | ref _ => cases hp
    | str z =>
      have hz : z.length ≤ 100000 := str_len hl
      have e := quote_ev (P := ⟨evalFn Pr gl fuel k, gl, fuel⟩) (S := S) (env := [some (.str z), none]) (z := z) rfl hz
      generalize hX : (E.bin .add (.repl "\"" (.var 0) [("\n", "\\n"), ("\"", "\\\""), ("\\", "\\\\")]) (.str "\"")) = X at e
      rw [fd__law_plain, hX]
      simp only [enter, List.map_cons, List.map_nil, List.length_cons, List.length_nil, List.cons_append, List.nil_append, Nat.reduceAdd, Nat.reduceSub, List.replicate, evalB, evalS, evalE, evalT, evalA, evalR, evalO, evalI, evalC, List.getElem?_cons_zero, List.getElem?_cons_succ, List.set_cons_zero, List.set_cons_succ, bind_ok, st_ok, seq_nx, seq_rt, seq_bk, seq_ct, of_some, ofS_some, ofB_some, bi_int, bi_lenT, bi_lenL, bi_lenR, bi_tupL, bi_tupR, bi_lens, bi_str, bi_ints, bin_add, bin_sub, bin_mul, bin_fdiv, bin_mod, bin_adds, bin_addt, bin_pow, Int.reduceLT, Int.reduceLE, Int.reduceAbs, Nat.reduceLT, Nat.reduceLeDiff, cmpRV, rdSeq, rdList, myList, ixRV, sl_str, isi_int_non, isi_int_bool, isi_int_int, isi_int_str, isi_int_tup, isi_bool_non, isi_bool_bool, isi_bool_int, isi_bool_str, isi_bool_tup, isi_str_non, isi_str_bool, isi_str_int, isi_str_str, isi_str_tup, isi_tuple_non, isi_tuple_bool, isi_tuple_int, isi_tuple_str, isi_tuple_tup, isi_list_non, isi_list_bool, isi_list_int, isi_list_str, isi_list_tup, isi_dict_non, isi_dict_bool, isi_dict_int, isi_dict_str, isi_dict_tup, isn_non, isn_bool, isn_int, isn_str, isn_tup, isb_true_non, isb_true_int, isb_true_str, isb_true_tup, isb_true_true, isb_true_false, isb_false_non, isb_false_int, isb_false_str, isb_false_tup, isb_false_true, isb_false_false, truthy, settle, bindT, bindTs, unpk, recv, isLst, isTxt, sz0, sz1, sz2, sz3, sz4, sz5, sz6, Option.map_some, if_true, if_false, Bool.false_eq_true, eqRV_int, Bool.not_true, Bool.not_false, forget, e]
    | tup xs =>
      obtain ⟨s1, s2, s3⟩ := tup_sizes hp
      have L := lc_evalP (P := ⟨evalFn Pr gl fuel k, gl, fuel⟩) (elt := el__law_plain_1) (tg := .name 1) (it := .e (.var 0)) (cond := .no) (own := [1]) (env := [some (.tup xs), none]) (S := S) (S1 := S) (xs := xs) (g := none) (fun x => .str (T x)) rfl rfl (fun x hx => ⟨_, rfl, rfl, by
          have hn : nestL xs + 1 ≤ d := hn
          have := ih (d - 1) (by omega) x k (Nat.le_trans (nestL_all.mp (Nat.le_refl _) x hx) (by omega)) (by omega) (plainL_all.mp hp x hx) (by have := s3 x hx; omega)
          rw [el__law_plain_1]
          simp only [enter, List.map_cons, List.map_nil, List.length_cons, List.length_nil, List.cons_append, List.nil_append, Nat.reduceAdd, Nat.reduceSub, List.replicate, evalB, evalS, evalE, evalT, evalA, evalR, evalO, evalI, evalC, List.getElem?_cons_zero, List.getElem?_cons_succ, List.set_cons_zero, List.set_cons_succ, bind_ok, st_ok, seq_nx, seq_rt, seq_bk, seq_ct, of_some, ofS_some, ofB_some, bi_int, bi_lenT, bi_lenL, bi_lenR, bi_tupL, bi_tupR, bi_lens, bi_str, bi_ints, bin_add, bin_sub, bin_mul, bin_fdiv, bin_mod, bin_adds, bin_addt, bin_pow, Int.reduceLT, Int.reduceLE, Int.reduceAbs, Nat.reduceLT, Nat.reduceLeDiff, cmpRV, rdSeq, rdList, myList, ixRV, sl_str, isi_int_non, isi_int_bool, isi_int_int, isi_int_str, isi_int_tup, isi_bool_non, isi_bool_bool, isi_bool_int, isi_bool_str, isi_bool_tup, isi_str_non, isi_str_bool, isi_str_int, isi_str_str, isi_str_tup, isi_tuple_non, isi_tuple_bool, isi_tuple_int, isi_tuple_str, isi_tuple_tup, isi_list_non, isi_list_bool, isi_list_int, isi_list_str, isi_list_tup, isi_dict_non, isi_dict_bool, isi_dict_int, isi_dict_str, isi_dict_tup, isn_non, isn_bool, isn_int, isn_str, isn_tup, isb_true_non, isb_true_int, isb_true_str, isb_true_tup, isb_true_true, isb_true_false, isb_false_non, isb_false_int, isb_false_str, isb_false_tup, isb_false_true, isb_false_false, truthy, settle, bindT, bindTs, unpk, recv, isLst, isTxt, sz0, sz1, sz2, sz3, sz4, sz5, sz6, Option.map_some, if_true, if_false, Bool.false_eq_true, eqRV_int, Bool.not_true, Bool.not_false, forget, this]⟩) (by rw [szl]; omega)
      rw [← lc__law_plain_2] at L
      have e := tup_ev L hp hl
      generalize hX : (E.bin .add (.bin .add (.str "(") (.meth .join (.str " ") (.cons lc__law_plain_2 .nil))) (.str ")")) = X at e
      rw [fd__law_plain, hX]
      simp only [enter, List.map_cons, List.map_nil, List.length_cons, List.length_nil, List.cons_append, List.nil_append, Nat.reduceAdd, Nat.reduceSub, List.replicate, evalB, evalS, evalE, evalT, evalA, evalR, evalO, evalI, evalC, List.getElem?_cons_zero, List.getElem?_cons_succ, List.set_cons_zero, List.set_cons_succ, bind_ok, st_ok, seq_nx, seq_rt, seq_bk, seq_ct, of_some, ofS_some, ofB_some, bi_int, bi_lenT, bi_lenL, bi_lenR, bi_tupL, bi_tupR, bi_lens, bi_str, bi_ints, bin_add, bin_sub, bin_mul, bin_fdiv, bin_mod, bin_adds, bin_addt, bin_pow, Int.reduceLT, Int.reduceLE, Int.reduceAbs, Nat.reduceLT, Nat.reduceLeDiff, cmpRV, rdSeq, rdList, myList, ixRV, sl_str, isi_int_non, isi_int_bool, isi_int_int, isi_int_str, isi_int_tup, isi_bool_non, isi_bool_bool, isi_bool_int, isi_bool_str, isi_bool_tup, isi_str_non, isi_str_bool, isi_str_int, isi_str_str, isi_str_tup, isi_tuple_non, isi_tuple_bool, isi_tuple_int, isi_tuple_str, isi_tuple_tup, isi_list_non, isi_list_bool, isi_list_int, isi_list_str, isi_list_tup, isi_dict_non, isi_dict_bool, isi_dict_int, isi_dict_str, isi_dict_tup, isn_non, isn_bool, isn_int, isn_str, isn_tup, isb_true_non, isb_true_int, isb_true_str, isb_true_tup, isb_true_true, isb_true_false, isb_false_non, isb_false_int, isb_false_str, isb_false_tup, isb_false_true, isb_false_false, truthy, settle, bindT, bindTs, unpk, recv, isLst, isTxt, sz0, sz1, sz2, sz3, sz4, sz5, sz6, Option.map_some, if_true, if_false, Bool.false_eq_true, eqRV_int, Bool.not_true, Bool.not_false, forget, e]
/-- the program's text of a value -/
theorem show_ok (h : Pr 498 = some fd_show_plain) (hq : Pr 445 = some fd_quoted) : ∀ (d : Nat) (v : PV) (k : Nat), nest v ≤ d → d + 2 ≤ k → plain v = true → (pT v).length ≤ 100000 → evalFn Pr gl fuel k 498 [v] S = .ok (.v (.str (T v))) S := by
  intro d
  induction d using Nat.strongRecOn with
  | _ d ih =>
    intro v k hn hk hp hl
    obtain ⟨k, rfl⟩ : ∃ j, k = j + 2 := ⟨k - 2, by omega⟩
    rw [call_eq h rfl]
    suffices g : evalB ⟨evalFn Pr gl fuel (k + 1), gl, fuel⟩ fd_show_plain.body (enter fd_show_plain [v]) S = .rt (.v (.str (T v))) S by
      rw [g]
      simp only [finR, gc_v0 (x := .str _) rfl]
    cases v with
    | non => simp only [fd_show_plain, enter, List.map_cons, List.map_nil, List.length_cons, List.length_nil, List.cons_append, List.nil_append, Nat.reduceAdd, Nat.reduceSub, List.replicate, evalB, evalS, evalE, evalT, evalA, evalR, evalO, evalI, evalC, List.getElem?_cons_zero, List.getElem?_cons_succ, List.set_cons_zero, List.set_cons_succ, bind_ok, st_ok, seq_nx, seq_rt, seq_bk, seq_ct, of_some, ofS_some, ofB_some, bi_int, bi_lenT, bi_lenL, bi_lenR, bi_tupL, bi_tupR, bi_lens, bi_str, bi_ints, bin_add, bin_sub, bin_mul, bin_fdiv, bin_mod, bin_adds, bin_addt, bin_pow, Int.reduceLT, Int.reduceLE, Int.reduceAbs, Nat.reduceLT, Nat.reduceLeDiff, cmpRV, rdSeq, rdList, myList, ixRV, sl_str, isi_int_non, isi_int_bool, isi_int_int, isi_int_str, isi_int_tup, isi_bool_non, isi_bool_bool, isi_bool_int, isi_bool_str, isi_bool_tup, isi_str_non, isi_str_bool, isi_str_int, isi_str_str, isi_str_tup, isi_tuple_non, isi_tuple_bool, isi_tuple_int, isi_tuple_str, isi_tuple_tup, isi_list_non, isi_list_bool, isi_list_int, isi_list_str, isi_list_tup, isi_dict_non, isi_dict_bool, isi_dict_int, isi_dict_str, isi_dict_tup, isn_non, isn_bool, isn_int, isn_str, isn_tup, isb_true_non, isb_true_int, isb_true_str, isb_true_tup, isb_true_true, isb_true_false, isb_false_non, isb_false_int, isb_false_str, isb_false_tup, isb_false_true, isb_false_false, truthy, settle, bindT, bindTs, unpk, recv, isLst, isTxt, sz0, sz1, sz2, sz3, sz4, sz5, sz6, Option.map_some, if_true, if_false, Bool.false_eq_true, eqRV_int, Bool.not_true, Bool.not_false, forget]; rfl
    | bool b =>
      cases b
      · simp only [fd_show_plain, enter, List.map_cons, List.map_nil, List.length_cons, List.length_nil, List.cons_append, List.nil_append, Nat.reduceAdd, Nat.reduceSub, List.replicate, evalB, evalS, evalE, evalT, evalA, evalR, evalO, evalI, evalC, List.getElem?_cons_zero, List.getElem?_cons_succ, List.set_cons_zero, List.set_cons_succ, bind_ok, st_ok, seq_nx, seq_rt, seq_bk, seq_ct, of_some, ofS_some, ofB_some, bi_int, bi_lenT, bi_lenL, bi_lenR, bi_tupL, bi_tupR, bi_lens, bi_str, bi_ints, bin_add, bin_sub, bin_mul, bin_fdiv, bin_mod, bin_adds, bin_addt, bin_pow, Int.reduceLT, Int.reduceLE, Int.reduceAbs, Nat.reduceLT, Nat.reduceLeDiff, cmpRV, rdSeq, rdList, myList, ixRV, sl_str, isi_int_non, isi_int_bool, isi_int_int, isi_int_str, isi_int_tup, isi_bool_non, isi_bool_bool, isi_bool_int, isi_bool_str, isi_bool_tup, isi_str_non, isi_str_bool, isi_str_int, isi_str_str, isi_str_tup, isi_tuple_non, isi_tuple_bool, isi_tuple_int, isi_tuple_str, isi_tuple_tup, isi_list_non, isi_list_bool, isi_list_int, isi_list_str, isi_list_tup, isi_dict_non, isi_dict_bool, isi_dict_int, isi_dict_str, isi_dict_tup, isn_non, isn_bool, isn_int, isn_str, isn_tup, isb_true_non, isb_true_int, isb_true_str, isb_true_tup, isb_true_true, isb_true_false, isb_false_non, isb_false_int, isb_false_str, isb_false_tup, isb_false_true, isb_false_false, truthy, settle, bindT, bindTs, unpk, recv, isLst, isTxt, sz0, sz1, sz2, sz3, sz4, sz5, sz6, Option.map_some, if_true, if_false, Bool.false_eq_true, eqRV_int, Bool.not_true, Bool.not_false, forget]; rfl
      · simp only [fd_show_plain, enter, List.map_cons, List.map_nil, List.length_cons, List.length_nil, List.cons_append, List.nil_append, Nat.reduceAdd, Nat.reduceSub, List.replicate, evalB, evalS, evalE, evalT, evalA, evalR, evalO, evalI, evalC, List.getElem?_cons_zero, List.getElem?_cons_succ, List.set_cons_zero, List.set_cons_succ, bind_ok, st_ok, seq_nx, seq_rt, seq_bk, seq_ct, of_some, ofS_some, ofB_some, bi_int, bi_lenT, bi_lenL, bi_lenR, bi_tupL, bi_tupR, bi_lens, bi_str, bi_ints, bin_add, bin_sub, bin_mul, bin_fdiv, bin_mod, bin_adds, bin_addt, bin_pow, Int.reduceLT, Int.reduceLE, Int.reduceAbs, Nat.reduceLT, Nat.reduceLeDiff, cmpRV, rdSeq, rdList, myList, ixRV, sl_str, isi_int_non, isi_int_bool, isi_int_int, isi_int_str, isi_int_tup, isi_bool_non, isi_bool_bool, isi_bool_int, isi_bool_str, isi_bool_tup, isi_str_non, isi_str_bool, isi_str_int, isi_str_str, isi_str_tup, isi_tuple_non, isi_tuple_bool, isi_tuple_int, isi_tuple_str, isi_tuple_tup, isi_list_non, isi_list_bool, isi_list_int, isi_list_str, isi_list_tup, isi_dict_non, isi_dict_bool, isi_dict_int, isi_dict_str, isi_dict_tup, isn_non, isn_bool, isn_int, isn_str, isn_tup, isb_true_non, isb_true_int, isb_true_str, isb_true_tup, isb_true_true, isb_true_false, isb_false_non, isb_false_int, isb_false_str, isb_false_tup, isb_false_true, isb_false_false, truthy, settle, bindT, bindTs, unpk, recv, isLst, isTxt, sz0, sz1, sz2, sz3, sz4, sz5, sz6, Option.map_some, if_true, if_false, Bool.false_eq_true, eqRV_int, Bool.not_true, Bool.not_false, forget]; rfl
    | int i =>
      have := log_ok (of_decide_eq_true hp)
      simp only [fd_show_plain, enter, List.map_cons, List.map_nil, List.length_cons, List.length_nil, List.cons_append, List.nil_append, Nat.reduceAdd, Nat.reduceSub, List.replicate, evalB, evalS, evalE, evalT, evalA, evalR, evalO, evalI, evalC, List.getElem?_cons_zero, List.getElem?_cons_succ, List.set_cons_zero, List.set_cons_succ, bind_ok, st_ok, seq_nx, seq_rt, seq_bk, seq_ct, of_some, ofS_some, ofB_some, bi_int, bi_lenT, bi_lenL, bi_lenR, bi_tupL, bi_tupR, bi_lens, bi_str, bi_ints, bin_add, bin_sub, bin_mul, bin_fdiv, bin_mod, bin_adds, bin_addt, bin_pow, Int.reduceLT, Int.reduceLE, Int.reduceAbs, Nat.reduceLT, Nat.reduceLeDiff, cmpRV, rdSeq, rdList, myList, ixRV, sl_str, isi_int_non, isi_int_bool, isi_int_int, isi_int_str, isi_int_tup, isi_bool_non, isi_bool_bool, isi_bool_int, isi_bool_str, isi_bool_tup, isi_str_non, isi_str_bool, isi_str_int, isi_str_str, isi_str_tup, isi_tuple_non, isi_tuple_bool, isi_tuple_int, isi_tuple_str, isi_tuple_tup, isi_list_non, isi_list_bool, isi_list_int, isi_list_str, isi_list_tup, isi_dict_non, isi_dict_bool, isi_dict_int, isi_dict_str, isi_dict_tup, isn_non, isn_bool, isn_int, isn_str, isn_tup, isb_true_non, isb_true_int, isb_true_str, isb_true_tup, isb_true_true, isb_true_false, isb_false_non, isb_false_int, isb_false_str, isb_false_tup, isb_false_true, isb_false_false, truthy, settle, bindT, bindTs, unpk, recv, isLst, isTxt, sz0, sz1, sz2, sz3, sz4, sz5, sz6, Option.map_some, if_true, if_false, Bool.false_eq_true, eqRV_int, Bool.not_true, Bool.not_false, forget, this, T_int]
    | ref _ => cases hp
    | str z =>
      have hz : z.length ≤ 100000 := str_len hl
      have e := quoted_ok (gl := gl) (fuel := fuel) (S := S) (k := k) hq hz
      rw [fd_show_plain]
      simp only [enter, List.map_cons, List.map_nil, List.length_cons, List.length_nil, List.cons_append, List.nil_append, Nat.reduceAdd, Nat.reduceSub, List.replicate, evalB, evalS, evalE, evalT, evalA, evalR, evalO, evalI, evalC, List.getElem?_cons_zero, List.getElem?_cons_succ, List.set_cons_zero, List.set_cons_succ, bind_ok, st_ok, seq_nx, seq_rt, seq_bk, seq_ct, of_some, ofS_some, ofB_some, bi_int, bi_lenT, bi_lenL, bi_lenR, bi_tupL, bi_tupR, bi_lens, bi_str, bi_ints, bin_add, bin_sub, bin_mul, bin_fdiv, bin_mod, bin_adds, bin_addt, bin_pow, Int.reduceLT, Int.reduceLE, Int.reduceAbs, Nat.reduceLT, Nat.reduceLeDiff, cmpRV, rdSeq, rdList, myList, ixRV, sl_str, isi_int_non, isi_int_bool, isi_int_int, isi_int_str, isi_int_tup, isi_bool_non, isi_bool_bool, isi_bool_int, isi_bool_str, isi_bool_tup, isi_str_non, isi_str_bool, isi_str_int, isi_str_str, isi_str_tup, isi_tuple_non, isi_tuple_bool, isi_tuple_int, isi_tuple_str, isi_tuple_tup, isi_list_non, isi_list_bool, isi_list_int, isi_list_str, isi_list_tup, isi_dict_non, isi_dict_bool, isi_dict_int, isi_dict_str, isi_dict_tup, isn_non, isn_bool, isn_int, isn_str, isn_tup, isb_true_non, isb_true_int, isb_true_str, isb_true_tup, isb_true_true, isb_true_false, isb_false_non, isb_false_int, isb_false_str, isb_false_tup, isb_false_true, isb_false_false, truthy, settle, bindT, bindTs, unpk, recv, isLst, isTxt, sz0, sz1, sz2, sz3, sz4, sz5, sz6, Option.map_some, if_true, if_false, Bool.false_eq_true, eqRV_int, Bool.not_true, Bool.not_false, forget, e]
    | tup xs =>
      obtain ⟨s1, s2, s3⟩ := tup_sizes hp
      have L := lc_evalP (P := ⟨evalFn Pr gl fuel (k + 1), gl, fuel⟩) (elt := el_show_plain_1) (tg := .name 1) (it := .e (.var 0)) (cond := .no) (own := [1]) (env := [some (.tup xs), none]) (S := S) (S1 := S) (xs := xs) (g := none) (fun x => .str (T x)) rfl rfl (fun x hx => ⟨_, rfl, rfl, by
          have hn : nestL xs + 1 ≤ d := hn
          have := ih (d - 1) (by omega) x (k + 1) (Nat.le_trans (nestL_all.mp (Nat.le_refl _) x hx) (by omega)) (by omega) (plainL_all.mp hp x hx) (by have := s3 x hx; omega)
          rw [el_show_plain_1]
          simp only [enter, List.map_cons, List.map_nil, List.length_cons, List.length_nil, List.cons_append, List.nil_append, Nat.reduceAdd, Nat.reduceSub, List.replicate, evalB, evalS, evalE, evalT, evalA, evalR, evalO, evalI, evalC, List.getElem?_cons_zero, List.getElem?_cons_succ, List.set_cons_zero, List.set_cons_succ, bind_ok, st_ok, seq_nx, seq_rt, seq_bk, seq_ct, of_some, ofS_some, ofB_some, bi_int, bi_lenT, bi_lenL, bi_lenR, bi_tupL, bi_tupR, bi_lens, bi_str, bi_ints, bin_add, bin_sub, bin_mul, bin_fdiv, bin_mod, bin_adds, bin_addt, bin_pow, Int.reduceLT, Int.reduceLE, Int.reduceAbs, Nat.reduceLT, Nat.reduceLeDiff, cmpRV, rdSeq, rdList, myList, ixRV, sl_str, isi_int_non, isi_int_bool, isi_int_int, isi_int_str, isi_int_tup, isi_bool_non, isi_bool_bool, isi_bool_int, isi_bool_str, isi_bool_tup, isi_str_non, isi_str_bool, isi_str_int, isi_str_str, isi_str_tup, isi_tuple_non, isi_tuple_bool, isi_tuple_int, isi_tuple_str, isi_tuple_tup, isi_list_non, isi_list_bool, isi_list_int, isi_list_str, isi_list_tup, isi_dict_non, isi_dict_bool, isi_dict_int, isi_dict_str, isi_dict_tup, isn_non, isn_bool, isn_int, isn_str, isn_tup, isb_true_non, isb_true_int, isb_true_str, isb_true_tup, isb_true_true, isb_true_false, isb_false_non, isb_false_int, isb_false_str, isb_false_tup, isb_false_true, isb_false_false, truthy, settle, bindT, bindTs, unpk, recv, isLst, isTxt, sz0, sz1, sz2, sz3, sz4, sz5, sz6, Option.map_some, if_true, if_false, Bool.false_eq_true, eqRV_int, Bool.not_true, Bool.not_false, forget, this]⟩) (by rw [szl]; omega)
      rw [← lc_show_plain_2] at L
      have e := tup_ev L hp hl
      generalize hX : (E.bin .add (.bin .add (.str "(") (.meth .join (.str " ") (.cons lc_show_plain_2 .nil))) (.str ")")) = X at e
      rw [fd_show_plain, hX]
      simp only [enter, List.map_cons, List.map_nil, List.length_cons, List.length_nil, List.cons_append, List.nil_append, Nat.reduceAdd, Nat.reduceSub, List.replicate, evalB, evalS, evalE, evalT, evalA, evalR, evalO, evalI, evalC, List.getElem?_cons_zero, List.getElem?_cons_succ, List.set_cons_zero, List.set_cons_succ, bind_ok, st_ok, seq_nx, seq_rt, seq_bk, seq_ct, of_some, ofS_some, ofB_some, bi_int, bi_lenT, bi_lenL, bi_lenR, bi_tupL, bi_tupR, bi_lens, bi_str, bi_ints, bin_add, bin_sub, bin_mul, bin_fdiv, bin_mod, bin_adds, bin_addt, bin_pow, Int.reduceLT, Int.reduceLE, Int.reduceAbs, Nat.reduceLT, Nat.reduceLeDiff, cmpRV, rdSeq, rdList, myList, ixRV, sl_str, isi_int_non, isi_int_bool, isi_int_int, isi_int_str, isi_int_tup, isi_bool_non, isi_bool_bool, isi_bool_int, isi_bool_str, isi_bool_tup, isi_str_non, isi_str_bool, isi_str_int, isi_str_str, isi_str_tup, isi_tuple_non, isi_tuple_bool, isi_tuple_int, isi_tuple_str, isi_tuple_tup, isi_list_non, isi_list_bool, isi_list_int, isi_list_str, isi_list_tup, isi_dict_non, isi_dict_bool, isi_dict_int, isi_dict_str, isi_dict_tup, isn_non, isn_bool, isn_int, isn_str, isn_tup, isb_true_non, isb_true_int, isb_true_str, isb_true_tup, isb_true_true, isb_true_false, isb_false_non, isb_false_int, isb_false_str, isb_false_tup, isb_false_true, isb_false_false, truthy, settle, bindT, bindTs, unpk, recv, isLst, isTxt, sz0, sz1, sz2, sz3, sz4, sz5, sz6, Option.map_some, if_true, if_false, Bool.false_eq_true, eqRV_int, Bool.not_true, Bool.not_false, forget, e]
/-- a value is the same as itself -/
theorem same_ok (h : Pr 145 = some fd__law_same) : ∀ (d : Nat) (v : PV) (k : Nat), nest v ≤ d → d + 1 ≤ k → plain v = true → (pT v).length ≤ 100000 → evalFn Pr gl fuel k 145 [v, v] S = .ok (.v (.bool true)) S := by
  intro d
  induction d using Nat.strongRecOn with
  | _ d ih =>
    intro v k hn hk hp hl
    obtain ⟨k, rfl⟩ : ∃ j, k = j + 1 := ⟨k - 1, by omega⟩
    rw [call_eq h rfl]
    suffices g : evalB ⟨evalFn Pr gl fuel k, gl, fuel⟩ fd__law_same.body (enter fd__law_same [v, v]) S = .rt (.v (.bool true)) S by
      rw [g]
      simp only [finR, gc_v0 (x := .bool _) rfl]
    cases v with
    | non => simp only [fd__law_same, enter, List.map_cons, List.map_nil, List.length_cons, List.length_nil, List.cons_append, List.nil_append, Nat.reduceAdd, Nat.reduceSub, List.replicate, evalB, evalS, evalE, evalT, evalA, evalR, evalO, evalI, evalC, List.getElem?_cons_zero, List.getElem?_cons_succ, List.set_cons_zero, List.set_cons_succ, bind_ok, st_ok, seq_nx, seq_rt, seq_bk, seq_ct, of_some, ofS_some, ofB_some, bi_int, bi_lenT, bi_lenL, bi_lenR, bi_tupL, bi_tupR, bi_lens, bi_str, bi_ints, bin_add, bin_sub, bin_mul, bin_fdiv, bin_mod, bin_adds, bin_addt, bin_pow, Int.reduceLT, Int.reduceLE, Int.reduceAbs, Nat.reduceLT, Nat.reduceLeDiff, cmpRV, rdSeq, rdList, myList, ixRV, sl_str, isi_int_non, isi_int_bool, isi_int_int, isi_int_str, isi_int_tup, isi_bool_non, isi_bool_bool, isi_bool_int, isi_bool_str, isi_bool_tup, isi_str_non, isi_str_bool, isi_str_int, isi_str_str, isi_str_tup, isi_tuple_non, isi_tuple_bool, isi_tuple_int, isi_tuple_str, isi_tuple_tup, isi_list_non, isi_list_bool, isi_list_int, isi_list_str, isi_list_tup, isi_dict_non, isi_dict_bool, isi_dict_int, isi_dict_str, isi_dict_tup, isn_non, isn_bool, isn_int, isn_str, isn_tup, isb_true_non, isb_true_int, isb_true_str, isb_true_tup, isb_true_true, isb_true_false, isb_false_non, isb_false_int, isb_false_str, isb_false_tup, isb_false_true, isb_false_false, truthy, settle, bindT, bindTs, unpk, recv, isLst, isTxt, sz0, sz1, sz2, sz3, sz4, sz5, sz6, Option.map_some, if_true, if_false, Bool.false_eq_true, eqRV_int, Bool.not_true, Bool.not_false, forget]
    | bool b =>
      cases b
      · simp only [fd__law_same, enter, List.map_cons, List.map_nil, List.length_cons, List.length_nil, List.cons_append, List.nil_append, Nat.reduceAdd, Nat.reduceSub, List.replicate, evalB, evalS, evalE, evalT, evalA, evalR, evalO, evalI, evalC, List.getElem?_cons_zero, List.getElem?_cons_succ, List.set_cons_zero, List.set_cons_succ, bind_ok, st_ok, seq_nx, seq_rt, seq_bk, seq_ct, of_some, ofS_some, ofB_some, bi_int, bi_lenT, bi_lenL, bi_lenR, bi_tupL, bi_tupR, bi_lens, bi_str, bi_ints, bin_add, bin_sub, bin_mul, bin_fdiv, bin_mod, bin_adds, bin_addt, bin_pow, Int.reduceLT, Int.reduceLE, Int.reduceAbs, Nat.reduceLT, Nat.reduceLeDiff, cmpRV, rdSeq, rdList, myList, ixRV, sl_str, isi_int_non, isi_int_bool, isi_int_int, isi_int_str, isi_int_tup, isi_bool_non, isi_bool_bool, isi_bool_int, isi_bool_str, isi_bool_tup, isi_str_non, isi_str_bool, isi_str_int, isi_str_str, isi_str_tup, isi_tuple_non, isi_tuple_bool, isi_tuple_int, isi_tuple_str, isi_tuple_tup, isi_list_non, isi_list_bool, isi_list_int, isi_list_str, isi_list_tup, isi_dict_non, isi_dict_bool, isi_dict_int, isi_dict_str, isi_dict_tup, isn_non, isn_bool, isn_int, isn_str, isn_tup, isb_true_non, isb_true_int, isb_true_str, isb_true_tup, isb_true_true, isb_true_false, isb_false_non, isb_false_int, isb_false_str, isb_false_tup, isb_false_true, isb_false_false, truthy, settle, bindT, bindTs, unpk, recv, isLst, isTxt, sz0, sz1, sz2, sz3, sz4, sz5, sz6, Option.map_some, if_true, if_false, Bool.false_eq_true, eqRV_int, Bool.not_true, Bool.not_false, forget]
      · simp only [fd__law_same, enter, List.map_cons, List.map_nil, List.length_cons, List.length_nil, List.cons_append, List.nil_append, Nat.reduceAdd, Nat.reduceSub, List.replicate, evalB, evalS, evalE, evalT, evalA, evalR, evalO, evalI, evalC, List.getElem?_cons_zero, List.getElem?_cons_succ, List.set_cons_zero, List.set_cons_succ, bind_ok, st_ok, seq_nx, seq_rt, seq_bk, seq_ct, of_some, ofS_some, ofB_some, bi_int, bi_lenT, bi_lenL, bi_lenR, bi_tupL, bi_tupR, bi_lens, bi_str, bi_ints, bin_add, bin_sub, bin_mul, bin_fdiv, bin_mod, bin_adds, bin_addt, bin_pow, Int.reduceLT, Int.reduceLE, Int.reduceAbs, Nat.reduceLT, Nat.reduceLeDiff, cmpRV, rdSeq, rdList, myList, ixRV, sl_str, isi_int_non, isi_int_bool, isi_int_int, isi_int_str, isi_int_tup, isi_bool_non, isi_bool_bool, isi_bool_int, isi_bool_str, isi_bool_tup, isi_str_non, isi_str_bool, isi_str_int, isi_str_str, isi_str_tup, isi_tuple_non, isi_tuple_bool, isi_tuple_int, isi_tuple_str, isi_tuple_tup, isi_list_non, isi_list_bool, isi_list_int, isi_list_str, isi_list_tup, isi_dict_non, isi_dict_bool, isi_dict_int, isi_dict_str, isi_dict_tup, isn_non, isn_bool, isn_int, isn_str, isn_tup, isb_true_non, isb_true_int, isb_true_str, isb_true_tup, isb_true_true, isb_true_false, isb_false_non, isb_false_int, isb_false_str, isb_false_tup, isb_false_true, isb_false_false, truthy, settle, bindT, bindTs, unpk, recv, isLst, isTxt, sz0, sz1, sz2, sz3, sz4, sz5, sz6, Option.map_some, if_true, if_false, Bool.false_eq_true, eqRV_int, Bool.not_true, Bool.not_false, forget]
    | int i => simp only [fd__law_same, enter, List.map_cons, List.map_nil, List.length_cons, List.length_nil, List.cons_append, List.nil_append, Nat.reduceAdd, Nat.reduceSub, List.replicate, evalB, evalS, evalE, evalT, evalA, evalR, evalO, evalI, evalC, List.getElem?_cons_zero, List.getElem?_cons_succ, List.set_cons_zero, List.set_cons_succ, bind_ok, st_ok, seq_nx, seq_rt, seq_bk, seq_ct, of_some, ofS_some, ofB_some, bi_int, bi_lenT, bi_lenL, bi_lenR, bi_tupL, bi_tupR, bi_lens, bi_str, bi_ints, bin_add, bin_sub, bin_mul, bin_fdiv, bin_mod, bin_adds, bin_addt, bin_pow, Int.reduceLT, Int.reduceLE, Int.reduceAbs, Nat.reduceLT, Nat.reduceLeDiff, cmpRV, rdSeq, rdList, myList, ixRV, sl_str, isi_int_non, isi_int_bool, isi_int_int, isi_int_str, isi_int_tup, isi_bool_non, isi_bool_bool, isi_bool_int, isi_bool_str, isi_bool_tup, isi_str_non, isi_str_bool, isi_str_int, isi_str_str, isi_str_tup, isi_tuple_non, isi_tuple_bool, isi_tuple_int, isi_tuple_str, isi_tuple_tup, isi_list_non, isi_list_bool, isi_list_int, isi_list_str, isi_list_tup, isi_dict_non, isi_dict_bool, isi_dict_int, isi_dict_str, isi_dict_tup, isn_non, isn_bool, isn_int, isn_str, isn_tup, isb_true_non, isb_true_int, isb_true_str, isb_true_tup, isb_true_true, isb_true_false, isb_false_non, isb_false_int, isb_false_str, isb_false_tup, isb_false_true, isb_false_false, truthy, settle, bindT, bindTs, unpk, recv, isLst, isTxt, sz0, sz1, sz2, sz3, sz4, sz5, sz6, Option.map_some, if_true, if_false, Bool.false_eq_true, eqRV_int, Bool.not_true, Bool.not_false, forget, decide_true]
    | ref _ => cases hp
    | str z => simp only [fd__law_same, enter, List.map_cons, List.map_nil, List.length_cons, List.length_nil, List.cons_append, List.nil_append, Nat.reduceAdd, Nat.reduceSub, List.replicate, evalB, evalS, evalE, evalT, evalA, evalR, evalO, evalI, evalC, List.getElem?_cons_zero, List.getElem?_cons_succ, List.set_cons_zero, List.set_cons_succ, bind_ok, st_ok, seq_nx, seq_rt, seq_bk, seq_ct, of_some, ofS_some, ofB_some, bi_int, bi_lenT, bi_lenL, bi_lenR, bi_tupL, bi_tupR, bi_lens, bi_str, bi_ints, bin_add, bin_sub, bin_mul, bin_fdiv, bin_mod, bin_adds, bin_addt, bin_pow, Int.reduceLT, Int.reduceLE, Int.reduceAbs, Nat.reduceLT, Nat.reduceLeDiff, cmpRV, rdSeq, rdList, myList, ixRV, sl_str, isi_int_non, isi_int_bool, isi_int_int, isi_int_str, isi_int_tup, isi_bool_non, isi_bool_bool, isi_bool_int, isi_bool_str, isi_bool_tup, isi_str_non, isi_str_bool, isi_str_int, isi_str_str, isi_str_tup, isi_tuple_non, isi_tuple_bool, isi_tuple_int, isi_tuple_str, isi_tuple_tup, isi_list_non, isi_list_bool, isi_list_int, isi_list_str, isi_list_tup, isi_dict_non, isi_dict_bool, isi_dict_int, isi_dict_str, isi_dict_tup, isn_non, isn_bool, isn_int, isn_str, isn_tup, isb_true_non, isb_true_int, isb_true_str, isb_true_tup, isb_true_true, isb_true_false, isb_false_non, isb_false_int, isb_false_str, isb_false_tup, isb_false_true, isb_false_false, truthy, settle, bindT, bindTs, unpk, recv, isLst, isTxt, sz0, sz1, sz2, sz3, sz4, sz5, sz6, Option.map_some, if_true, if_false, Bool.false_eq_true, eqRV_int, Bool.not_true, Bool.not_false, forget, decide_true]
    | tup xs =>
      obtain ⟨s1, s2, s3⟩ := tup_sizes hp
      have hr : inRange (xs.length : Int) = true := decide_eq_true (by omega)
      have L := for_eval (P := ⟨evalFn Pr gl fuel k, gl, fuel⟩) (t := .name 2) (it := .rng1 (.bcall .len (.cons (.var 1) .nil))) (b := bd__law_same_1) (env := [some (.tup xs), some (.tup xs), none]) (S := S) (S1 := S) (xs := rangeItems 0 xs.length) (g := none)
        (by simp only [enter, List.map_cons, List.map_nil, List.length_cons, List.length_nil, List.cons_append, List.nil_append, Nat.reduceAdd, Nat.reduceSub, List.replicate, evalB, evalS, evalE, evalT, evalA, evalR, evalO, evalI, evalC, List.getElem?_cons_zero, List.getElem?_cons_succ, List.set_cons_zero, List.set_cons_succ, bind_ok, st_ok, seq_nx, seq_rt, seq_bk, seq_ct, of_some, ofS_some, ofB_some, bi_int, bi_lenT, bi_lenL, bi_lenR, bi_tupL, bi_tupR, bi_lens, bi_str, bi_ints, bin_add, bin_sub, bin_mul, bin_fdiv, bin_mod, bin_adds, bin_addt, bin_pow, Int.reduceLT, Int.reduceLE, Int.reduceAbs, Nat.reduceLT, Nat.reduceLeDiff, cmpRV, rdSeq, rdList, myList, ixRV, sl_str, isi_int_non, isi_int_bool, isi_int_int, isi_int_str, isi_int_tup, isi_bool_non, isi_bool_bool, isi_bool_int, isi_bool_str, isi_bool_tup, isi_str_non, isi_str_bool, isi_str_int, isi_str_str, isi_str_tup, isi_tuple_non, isi_tuple_bool, isi_tuple_int, isi_tuple_str, isi_tuple_tup, isi_list_non, isi_list_bool, isi_list_int, isi_list_str, isi_list_tup, isi_dict_non, isi_dict_bool, isi_dict_int, isi_dict_str, isi_dict_tup, isn_non, isn_bool, isn_int, isn_str, isn_tup, isb_true_non, isb_true_int, isb_true_str, isb_true_tup, isb_true_true, isb_true_false, isb_false_non, isb_false_int, isb_false_str, isb_false_tup, isb_false_true, isb_false_false, truthy, settle, bindT, bindTs, unpk, recv, isLst, isTxt, sz0, sz1, sz2, sz3, sz4, sz5, sz6, Option.map_some, if_true, if_false, Bool.false_eq_true, eqRV_int, Bool.not_true, Bool.not_false, forget, hr]) (I := fun ys env S' => ∃ c, env = [some (.tup xs), some (.tup xs), c] ∧ S' = S ∧ ∀ y ∈ ys, ∃ j : Nat, j < xs.length ∧ y = .int j) (Post := fun r => ∃ c, r = .nx [some (.tup xs), some (.tup xs), c] S) ?_ ?_ ⟨none, rfl, rfl, fun y hy => by obtain ⟨j, hj, e⟩ := range_mem hy; exact ⟨j, by omega, by rw [e]; simp⟩⟩
      · obtain ⟨c, L⟩ := L
        rw [← fs__law_same_2] at L
        rw [fd__law_same]
        simp only [enter, List.map_cons, List.map_nil, List.length_cons, List.length_nil, List.cons_append, List.nil_append, Nat.reduceAdd, Nat.reduceSub, List.replicate, evalB, evalS, evalE, evalT, evalA, evalR, evalO, evalI, evalC, List.getElem?_cons_zero, List.getElem?_cons_succ, List.set_cons_zero, List.set_cons_succ, bind_ok, st_ok, seq_nx, seq_rt, seq_bk, seq_ct, of_some, ofS_some, ofB_some, bi_int, bi_lenT, bi_lenL, bi_lenR, bi_tupL, bi_tupR, bi_lens, bi_str, bi_ints, bin_add, bin_sub, bin_mul, bin_fdiv, bin_mod, bin_adds, bin_addt, bin_pow, Int.reduceLT, Int.reduceLE, Int.reduceAbs, Nat.reduceLT, Nat.reduceLeDiff, cmpRV, rdSeq, rdList, myList, ixRV, sl_str, isi_int_non, isi_int_bool, isi_int_int, isi_int_str, isi_int_tup, isi_bool_non, isi_bool_bool, isi_bool_int, isi_bool_str, isi_bool_tup, isi_str_non, isi_str_bool, isi_str_int, isi_str_str, isi_str_tup, isi_tuple_non, isi_tuple_bool, isi_tuple_int, isi_tuple_str, isi_tuple_tup, isi_list_non, isi_list_bool, isi_list_int, isi_list_str, isi_list_tup, isi_dict_non, isi_dict_bool, isi_dict_int, isi_dict_str, isi_dict_tup, isn_non, isn_bool, isn_int, isn_str, isn_tup, isb_true_non, isb_true_int, isb_true_str, isb_true_tup, isb_true_true, isb_true_false, isb_false_non, isb_false_int, isb_false_str, isb_false_tup, isb_false_true, isb_false_false, truthy, settle, bindT, bindTs, unpk, recv, isLst, isTxt, sz0, sz1, sz2, sz3, sz4, sz5, sz6, Option.map_some, if_true, if_false, Bool.false_eq_true, eqRV_int, Bool.not_true, Bool.not_false, forget, decide_true, L]
      · rintro y ys env S' ⟨c, rfl, rfl, hy⟩
        obtain ⟨j, hj, rfl⟩ := hy y List.mem_cons_self
        have hn : nestL xs + 1 ≤ d := hn
        have hx : xs[j] ∈ xs := List.getElem_mem hj
        have := ih (d - 1) (by omega) xs[j] k (Nat.le_trans (nestL_all.mp (Nat.le_refl _) _ hx) (by omega)) (by omega) (plainL_all.mp hp _ hx) (by have := s3 _ hx; omega)
        refine ⟨rfl, _, _, rfl, ?_⟩
        simp only [bd__law_same_1, enter, List.map_cons, List.map_nil, List.length_cons, List.length_nil, List.cons_append, List.nil_append, Nat.reduceAdd, Nat.reduceSub, List.replicate, evalB, evalS, evalE, evalT, evalA, evalR, evalO, evalI, evalC, List.getElem?_cons_zero, List.getElem?_cons_succ, List.set_cons_zero, List.set_cons_succ, bind_ok, st_ok, seq_nx, seq_rt, seq_bk, seq_ct, of_some, ofS_some, ofB_some, bi_int, bi_lenT, bi_lenL, bi_lenR, bi_tupL, bi_tupR, bi_lens, bi_str, bi_ints, bin_add, bin_sub, bin_mul, bin_fdiv, bin_mod, bin_adds, bin_addt, bin_pow, Int.reduceLT, Int.reduceLE, Int.reduceAbs, Nat.reduceLT, Nat.reduceLeDiff, cmpRV, rdSeq, rdList, myList, ixRV, sl_str, isi_int_non, isi_int_bool, isi_int_int, isi_int_str, isi_int_tup, isi_bool_non, isi_bool_bool, isi_bool_int, isi_bool_str, isi_bool_tup, isi_str_non, isi_str_bool, isi_str_int, isi_str_str, isi_str_tup, isi_tuple_non, isi_tuple_bool, isi_tuple_int, isi_tuple_str, isi_tuple_tup, isi_list_non, isi_list_bool, isi_list_int, isi_list_str, isi_list_tup, isi_dict_non, isi_dict_bool, isi_dict_int, isi_dict_str, isi_dict_tup, isn_non, isn_bool, isn_int, isn_str, isn_tup, isb_true_non, isb_true_int, isb_true_str, isb_true_tup, isb_true_true, isb_true_false, isb_false_non, isb_false_int, isb_false_str, isb_false_tup, isb_false_true, isb_false_false, truthy, settle, bindT, bindTs, unpk, recv, isLst, isTxt, sz0, sz1, sz2, sz3, sz4, sz5, sz6, Option.map_some, if_true, if_false, Bool.false_eq_true, eqRV_int, Bool.not_true, Bool.not_false, forget, atI_nat hj, this]
        exact ⟨_, rfl, by trivial, fun y h => hy y (List.mem_cons_of_mem _ h)⟩
      · rintro env S' ⟨c, rfl, rfl, _⟩
        exact ⟨rfl, c, rfl⟩
theorem same_str (h : Pr 145 = some fd__law_same) (z : Str) (k : Nat) : evalFn Pr gl fuel (k + 1) 145 [.str z, .str z] S = .ok (.v (.bool true)) S := by
  rw [call_eq h rfl]
  suffices g : evalB ⟨evalFn Pr gl fuel k, gl, fuel⟩ fd__law_same.body (enter fd__law_same [.str z, .str z]) S = .rt (.v (.bool true)) S by
    rw [g]
    simp only [finR, gc_v0 (x := .bool _) rfl]
  simp only [fd__law_same, enter, List.map_cons, List.map_nil, List.length_cons, List.length_nil, List.cons_append, List.nil_append, Nat.reduceAdd, Nat.reduceSub, List.replicate, evalB, evalS, evalE, evalT, evalA, evalR, evalO, evalI, evalC, List.getElem?_cons_zero, List.getElem?_cons_succ, List.set_cons_zero, List.set_cons_succ, bind_ok, st_ok, seq_nx, seq_rt, seq_bk, seq_ct, of_some, ofS_some, ofB_some, bi_int, bi_lenT, bi_lenL, bi_lenR, bi_tupL, bi_tupR, bi_lens, bi_str, bi_ints, bin_add, bin_sub, bin_mul, bin_fdiv, bin_mod, bin_adds, bin_addt, bin_pow, Int.reduceLT, Int.reduceLE, Int.reduceAbs, Nat.reduceLT, Nat.reduceLeDiff, cmpRV, rdSeq, rdList, myList, ixRV, sl_str, isi_int_non, isi_int_bool, isi_int_int, isi_int_str, isi_int_tup, isi_bool_non, isi_bool_bool, isi_bool_int, isi_bool_str, isi_bool_tup, isi_str_non, isi_str_bool, isi_str_int, isi_str_str, isi_str_tup, isi_tuple_non, isi_tuple_bool, isi_tuple_int, isi_tuple_str, isi_tuple_tup, isi_list_non, isi_list_bool, isi_list_int, isi_list_str, isi_list_tup, isi_dict_non, isi_dict_bool, isi_dict_int, isi_dict_str, isi_dict_tup, isn_non, isn_bool, isn_int, isn_str, isn_tup, isb_true_non, isb_true_int, isb_true_str, isb_true_tup, isb_true_true, isb_true_false, isb_false_non, isb_false_int, isb_false_str, isb_false_tup, isb_false_true, isb_false_false, truthy, settle, bindT, bindTs, unpk, recv, isLst, isTxt, sz0, sz1, sz2, sz3, sz4, sz5, sz6, Option.map_some, if_true, if_false, Bool.false_eq_true, eqRV_int, Bool.not_true, Bool.not_false, forget, decide_true]
end
end Deep

set_option Elab.async false
set_option linter.all false
set_option maxRecDepth 100000
set_option maxHeartbeats 1000000
namespace Deep
open PySem PySem.Spec PyProof.Rows L2 PySem.StrLaws TL
def tlB : Bk → Bk
  | .cons _ b => b
  | .nil => .nil
def nodig (R : List Nat) : Prop := ∀ c r, R = c :: r → ¬ (48 ≤ c ∧ c ≤ 57)
theorem sgd {c d : Nat} {y : Str} (h : tl y = [d]) : decide ((⟨#[c]⟩ : Str) = y) = decide (c = d) := by
  have e : ((⟨#[c]⟩ : Str) = y) ↔ c = d := by
    constructor
    · intro e
      have : tl (⟨#[c]⟩ : Str) = tl y := by rw [e]
      rw [h] at this
      exact (List.cons.inj this).1
    · intro e
      subst e
      exact ext_tl h.symm
  by_cases hc : c = d
  · rw [decide_eq_true hc, decide_eq_true (e.mpr hc)]
  · rw [decide_eq_false hc, decide_eq_false (fun z => hc (e.mp z))]
theorem sge {c : Nat} : decide ((⟨#[c]⟩ : Str) = ("" : Str)) = false := decide_eq_false fun e => by
  have : tl (⟨#[c]⟩ : Str) = tl "" := by rw [e]
  cases this
theorem fig_mem {c : Nat} {S : Store} : memRV (.v (.str ⟨#[c]⟩)) (.v (.str "0123456789")) S = some (decide (48 ≤ c ∧ c ≤ 57)) := by
  show some (decide (c ∈ tl "0123456789")) = _
  have e : tl ("0123456789" : Str) = [48, 49, 50, 51, 52, 53, 54, 55, 56, 57] := by decide +kernel
  rw [e]
  congr 1
  have : (c ∈ [48, 49, 50, 51, 52, 53, 54, 55, 56, 57]) ↔ (48 ≤ c ∧ c ≤ 57) := by
    simp only [List.mem_cons, List.not_mem_nil, or_false]
    omega
  by_cases h : 48 ≤ c ∧ c ≤ 57
  · rw [decide_eq_true h, decide_eq_true (this.mpr h)]
  · rw [decide_eq_false h, decide_eq_false fun z => h (this.mp z)]
section
variable {Pr : Prog} {gl : Nat → Option PV} {fuel : Nat} {S : Store}
theorem int_tail {P : Par} {z : Str} {A A' D R : List Nat} {d : Nat} {i : Int} (h7 : P.glob 7 = some (.str "0123456789")) (h20 : P.glob 20 = some (.int 2000)) (hf : 100 ≤ P.fuel) (hz : tl z = A' ++ (d :: (D ++ R))) (hl : z.length ≤ 200000) (hd : 48 ≤ d ∧ d ≤ 57) (hD : ∀ c ∈ D, 48 ≤ c ∧ c ≤ 57)
    (h0 : d = 48 → D = [] ∧ A'.length = A.length) (hn : D.length ≤ 20) (hR : nodig R) (hi : tl (cutS z (some (A.length : Int)) (some ((A'.length + 1 + D.length : Nat) : Int))) = intL i) (hi2 : (intL i).length ≤ 30) :
    evalB P (tlB fd_integer_at.body) [some (.str z), some (.int A.length), some (.int A'.length), none, none] S = .rt (.v (.tup [.int i, .int ((A'.length + 1 + D.length : Nat) : Int)])) S := by
  have hs : z.length ≤ sizeLine := by rw [szl]; omega
  have c1 : cutS z (some (A'.length : Int)) (some ((A'.length : Int) + 1)) = ⟨#[d]⟩ := cut_hit hz
  have hsl : ∀ i j S, slRV (.v (.str z)) i j S = some (.v (.str (cutS z i j))) := fun i j S => sl_str hs
  have e0 : decide ((⟨#[d]⟩ : Str) = ("" : Str)) = false := sge
  have e1 : decide ((⟨#[d]⟩ : Str) = ("0" : Str)) = decide (d = 48) := sgd rfl
  have e2 : decide (48 ≤ d ∧ d ≤ 57) = true := decide_eq_true hd
  have e3 : (if decide (d = 48) = true then (Res.ok (decide ((A.length : Int) < (A'.length : Int))) S : Res Bool) else .ok false S) = .ok false S := by
    by_cases h : d = 48
    · rw [if_pos (decide_eq_true h)]
      have := (h0 h).2
      rw [decide_eq_false (by omega)]
    · rw [if_neg (by rw [decide_eq_false h]; exact Bool.false_ne_true)]
  have L := while_eval (P := P) (c := wt_integer_at_1) (b := bd_integer_at_2) (env := [some (.str z), some (.int A.length), some (.int A'.length), some (.str ⟨#[d]⟩), some (.int ((A'.length : Int) + 1))]) (S := S)
    (I := fun n env S' => ∃ j, env = [some (.str z), some (.int A.length), some (.int A'.length), some (.str ⟨#[d]⟩), some (.int ((A'.length + 1 + j : Nat) : Int))] ∧ S' = S ∧ j + n = D.length)
    (Post := fun r => r = .nx [some (.str z), some (.int A.length), some (.int A'.length), some (.str ⟨#[d]⟩), some (.int ((A'.length + 1 + D.length : Nat) : Int))] S) ?_ D.length (by omega) ⟨0, rfl, rfl, by omega⟩
  · rw [← ws_integer_at_3] at L
    have bi : ∀ S, biRV .int [.v (.str (cutS z (some (A.length : Int)) (some ((A'.length + 1 + D.length : Nat) : Int))))] S = some (.v (.int i)) := fun S => bi_ints (by rw [len_tl, hi]; omega) (int_back hi (by omega))
    simp only [fd_integer_at, tlB, decide_true, decide_false, enter, List.map_cons, List.map_nil, List.length_cons, List.length_nil, List.cons_append, List.nil_append, Nat.reduceAdd, Nat.reduceSub, List.replicate, evalB, evalS, evalE, evalT, evalA, evalR, evalO, evalI, evalC, List.getElem?_cons_zero, List.getElem?_cons_succ, List.set_cons_zero, List.set_cons_succ, bind_ok, st_ok, seq_nx, seq_rt, seq_bk, seq_ct, of_some, ofS_some, ofB_some, bi_int, bi_lenT, bi_lenL, bi_lenR, bi_tupL, bi_tupR, bi_lens, bi_str, bi_ints, bin_add, bin_sub, bin_mul, bin_fdiv, bin_mod, bin_adds, bin_addt, bin_pow, Int.reduceLT, Int.reduceLE, Int.reduceAbs, Nat.reduceLT, Nat.reduceLeDiff, cmpRV, rdSeq, rdList, myList, ix_str, sl_str, isi_int_non, isi_int_bool, isi_int_int, isi_int_str, isi_int_tup, isi_bool_non, isi_bool_bool, isi_bool_int, isi_bool_str, isi_bool_tup, isi_str_non, isi_str_bool, isi_str_int, isi_str_str, isi_str_tup, isi_tuple_non, isi_tuple_bool, isi_tuple_int, isi_tuple_str, isi_tuple_tup, isi_list_non, isi_list_bool, isi_list_int, isi_list_str, isi_list_tup, isi_dict_non, isi_dict_bool, isi_dict_int, isi_dict_str, isi_dict_tup, isn_non, isn_bool, isn_int, isn_str, isn_tup, isb_true_non, isb_true_int, isb_true_str, isb_true_tup, isb_true_true, isb_true_false, isb_false_non, isb_false_int, isb_false_str, isb_false_tup, isb_false_true, isb_false_false, truthy, settle, bindT, bindTs, unpk, recv, isLst, isTxt, sz0, sz1, sz2, sz3, sz4, sz5, sz6, Option.map_some, if_true, if_false, Bool.false_eq_true, eqRV_int, Bool.not_true, Bool.not_false, forget, hsl, c1, h7, fig_mem, e0, e1, e2, e3, L, bi]
  · rintro n env S' ⟨j, rfl, rfl, hj⟩
    by_cases hjn : j < D.length
    · have hz2 : tl z = (A' ++ d :: D.take j) ++ D[j] :: (D.drop (j + 1) ++ R) := by
        have : D = D.take j ++ D[j] :: D.drop (j + 1) := by rw [← List.drop_eq_getElem_cons hjn, List.take_append_drop]
        rw [hz]
        simp only [List.append_assoc, List.cons_append]
        exact congrArg (fun l => A' ++ d :: l) ((congrArg (· ++ R) this).trans (List.append_assoc _ _ _))
      have el : (A' ++ d :: D.take j).length = A'.length + 1 + j := by simp; omega
      have c2 := cut_hit hz2
      rw [el] at c2
      have m2 : decide (48 ≤ D[j] ∧ D[j] ≤ 57) = true := decide_eq_true (hD _ (List.getElem_mem hjn))
      have d48 : decide (d = 48) = false := decide_eq_false fun h => by
        have := (h0 h).1
        rw [this] at hjn
        cases hjn
      have e2000 : decide (((A'.length + 1 + j : Nat) : Int) - (A'.length : Int) = 2000) = false := decide_eq_false (by omega)
      have s0 : decide ((⟨#[D[j]]⟩ : Str) = ("" : Str)) = false := sge
      refine .inr ⟨S', by simp only [wt_integer_at_1, decide_true, decide_false, enter, List.map_cons, List.map_nil, List.length_cons, List.length_nil, List.cons_append, List.nil_append, Nat.reduceAdd, Nat.reduceSub, List.replicate, evalB, evalS, evalE, evalT, evalA, evalR, evalO, evalI, evalC, List.getElem?_cons_zero, List.getElem?_cons_succ, List.set_cons_zero, List.set_cons_succ, bind_ok, st_ok, seq_nx, seq_rt, seq_bk, seq_ct, of_some, ofS_some, ofB_some, bi_int, bi_lenT, bi_lenL, bi_lenR, bi_tupL, bi_tupR, bi_lens, bi_str, bi_ints, bin_add, bin_sub, bin_mul, bin_fdiv, bin_mod, bin_adds, bin_addt, bin_pow, Int.reduceLT, Int.reduceLE, Int.reduceAbs, Nat.reduceLT, Nat.reduceLeDiff, cmpRV, rdSeq, rdList, myList, ix_str, sl_str, isi_int_non, isi_int_bool, isi_int_int, isi_int_str, isi_int_tup, isi_bool_non, isi_bool_bool, isi_bool_int, isi_bool_str, isi_bool_tup, isi_str_non, isi_str_bool, isi_str_int, isi_str_str, isi_str_tup, isi_tuple_non, isi_tuple_bool, isi_tuple_int, isi_tuple_str, isi_tuple_tup, isi_list_non, isi_list_bool, isi_list_int, isi_list_str, isi_list_tup, isi_dict_non, isi_dict_bool, isi_dict_int, isi_dict_str, isi_dict_tup, isn_non, isn_bool, isn_int, isn_str, isn_tup, isb_true_non, isb_true_int, isb_true_str, isb_true_tup, isb_true_true, isb_true_false, isb_false_non, isb_false_int, isb_false_str, isb_false_tup, isb_false_true, isb_false_false, truthy, settle, bindT, bindTs, unpk, recv, isLst, isTxt, sz0, sz1, sz2, sz3, sz4, sz5, sz6, Option.map_some, if_true, if_false, Bool.false_eq_true, eqRV_int, Bool.not_true, Bool.not_false, forget, hsl, c2, h7, fig_mem, m2, s0], ?_⟩
      simp only [bd_integer_at_2, decide_true, decide_false, enter, List.map_cons, List.map_nil, List.length_cons, List.length_nil, List.cons_append, List.nil_append, Nat.reduceAdd, Nat.reduceSub, List.replicate, evalB, evalS, evalE, evalT, evalA, evalR, evalO, evalI, evalC, List.getElem?_cons_zero, List.getElem?_cons_succ, List.set_cons_zero, List.set_cons_succ, bind_ok, st_ok, seq_nx, seq_rt, seq_bk, seq_ct, of_some, ofS_some, ofB_some, bi_int, bi_lenT, bi_lenL, bi_lenR, bi_tupL, bi_tupR, bi_lens, bi_str, bi_ints, bin_add, bin_sub, bin_mul, bin_fdiv, bin_mod, bin_adds, bin_addt, bin_pow, Int.reduceLT, Int.reduceLE, Int.reduceAbs, Nat.reduceLT, Nat.reduceLeDiff, cmpRV, rdSeq, rdList, myList, ix_str, sl_str, isi_int_non, isi_int_bool, isi_int_int, isi_int_str, isi_int_tup, isi_bool_non, isi_bool_bool, isi_bool_int, isi_bool_str, isi_bool_tup, isi_str_non, isi_str_bool, isi_str_int, isi_str_str, isi_str_tup, isi_tuple_non, isi_tuple_bool, isi_tuple_int, isi_tuple_str, isi_tuple_tup, isi_list_non, isi_list_bool, isi_list_int, isi_list_str, isi_list_tup, isi_dict_non, isi_dict_bool, isi_dict_int, isi_dict_str, isi_dict_tup, isn_non, isn_bool, isn_int, isn_str, isn_tup, isb_true_non, isb_true_int, isb_true_str, isb_true_tup, isb_true_true, isb_true_false, isb_false_non, isb_false_int, isb_false_str, isb_false_tup, isb_false_true, isb_false_false, truthy, settle, bindT, bindTs, unpk, recv, isLst, isTxt, sz0, sz1, sz2, sz3, sz4, sz5, sz6, Option.map_some, if_true, if_false, Bool.false_eq_true, eqRV_int, Bool.not_true, Bool.not_false, forget, augOk, e1, d48, h20, e2000]
      exact ⟨n - 1, by omega, j + 1, by rw [show ((A'.length + 1 + j : Nat) : Int) + 1 = ((A'.length + 1 + (j + 1) : Nat) : Int) by omega], by trivial, by omega⟩
    · have ej : j = D.length := by omega
      subst ej
      refine .inl ⟨S', ?_, rfl⟩
      have el : (A' ++ d :: D).length = A'.length + 1 + D.length := by simp; omega
      cases R with
      | nil =>
        have c2 := cut_end (z := z) (A := A' ++ d :: D) (by rw [hz]; simp)
        rw [el] at c2
        have s0 : decide (Str.empty = ("" : Str)) = true := by decide +kernel
        simp only [wt_integer_at_1, decide_true, decide_false, enter, List.map_cons, List.map_nil, List.length_cons, List.length_nil, List.cons_append, List.nil_append, Nat.reduceAdd, Nat.reduceSub, List.replicate, evalB, evalS, evalE, evalT, evalA, evalR, evalO, evalI, evalC, List.getElem?_cons_zero, List.getElem?_cons_succ, List.set_cons_zero, List.set_cons_succ, bind_ok, st_ok, seq_nx, seq_rt, seq_bk, seq_ct, of_some, ofS_some, ofB_some, bi_int, bi_lenT, bi_lenL, bi_lenR, bi_tupL, bi_tupR, bi_lens, bi_str, bi_ints, bin_add, bin_sub, bin_mul, bin_fdiv, bin_mod, bin_adds, bin_addt, bin_pow, Int.reduceLT, Int.reduceLE, Int.reduceAbs, Nat.reduceLT, Nat.reduceLeDiff, cmpRV, rdSeq, rdList, myList, ix_str, sl_str, isi_int_non, isi_int_bool, isi_int_int, isi_int_str, isi_int_tup, isi_bool_non, isi_bool_bool, isi_bool_int, isi_bool_str, isi_bool_tup, isi_str_non, isi_str_bool, isi_str_int, isi_str_str, isi_str_tup, isi_tuple_non, isi_tuple_bool, isi_tuple_int, isi_tuple_str, isi_tuple_tup, isi_list_non, isi_list_bool, isi_list_int, isi_list_str, isi_list_tup, isi_dict_non, isi_dict_bool, isi_dict_int, isi_dict_str, isi_dict_tup, isn_non, isn_bool, isn_int, isn_str, isn_tup, isb_true_non, isb_true_int, isb_true_str, isb_true_tup, isb_true_true, isb_true_false, isb_false_non, isb_false_int, isb_false_str, isb_false_tup, isb_false_true, isb_false_false, truthy, settle, bindT, bindTs, unpk, recv, isLst, isTxt, sz0, sz1, sz2, sz3, sz4, sz5, sz6, Option.map_some, if_true, if_false, Bool.false_eq_true, eqRV_int, Bool.not_true, Bool.not_false, forget, hsl, c2, s0]
      | cons c r =>
        have c2 := cut_hit (z := z) (A := A' ++ d :: D) (R := r) (c := c) (by rw [hz]; simp)
        rw [el] at c2
        have s0 : decide ((⟨#[c]⟩ : Str) = ("" : Str)) = false := sge
        have m2 : decide (48 ≤ c ∧ c ≤ 57) = false := decide_eq_false (hR c r rfl)
        simp only [wt_integer_at_1, decide_true, decide_false, enter, List.map_cons, List.map_nil, List.length_cons, List.length_nil, List.cons_append, List.nil_append, Nat.reduceAdd, Nat.reduceSub, List.replicate, evalB, evalS, evalE, evalT, evalA, evalR, evalO, evalI, evalC, List.getElem?_cons_zero, List.getElem?_cons_succ, List.set_cons_zero, List.set_cons_succ, bind_ok, st_ok, seq_nx, seq_rt, seq_bk, seq_ct, of_some, ofS_some, ofB_some, bi_int, bi_lenT, bi_lenL, bi_lenR, bi_tupL, bi_tupR, bi_lens, bi_str, bi_ints, bin_add, bin_sub, bin_mul, bin_fdiv, bin_mod, bin_adds, bin_addt, bin_pow, Int.reduceLT, Int.reduceLE, Int.reduceAbs, Nat.reduceLT, Nat.reduceLeDiff, cmpRV, rdSeq, rdList, myList, ix_str, sl_str, isi_int_non, isi_int_bool, isi_int_int, isi_int_str, isi_int_tup, isi_bool_non, isi_bool_bool, isi_bool_int, isi_bool_str, isi_bool_tup, isi_str_non, isi_str_bool, isi_str_int, isi_str_str, isi_str_tup, isi_tuple_non, isi_tuple_bool, isi_tuple_int, isi_tuple_str, isi_tuple_tup, isi_list_non, isi_list_bool, isi_list_int, isi_list_str, isi_list_tup, isi_dict_non, isi_dict_bool, isi_dict_int, isi_dict_str, isi_dict_tup, isn_non, isn_bool, isn_int, isn_str, isn_tup, isb_true_non, isb_true_int, isb_true_str, isb_true_tup, isb_true_true, isb_true_false, isb_false_non, isb_false_int, isb_false_str, isb_false_tup, isb_false_true, isb_false_false, truthy, settle, bindT, bindTs, unpk, recv, isLst, isTxt, sz0, sz1, sz2, sz3, sz4, sz5, sz6, Option.map_some, if_true, if_false, Bool.false_eq_true, eqRV_int, Bool.not_true, Bool.not_false, forget, hsl, c2, h7, fig_mem, m2, s0]
theorem integer_ok {k : Nat} (h : Pr 325 = some fd_integer_at) (h7 : gl 7 = some (.str "0123456789")) (h20 : gl 20 = some (.int 2000)) (hf : 100 ≤ fuel) {z : Str} {A R : List Nat} {i : Int} (hz : tl z = A ++ (intL i ++ R)) (hl : z.length ≤ 200000) (hb : i.natAbs < 10 ^ 20) (hR : nodig R) :
    evalFn Pr gl fuel (k + 1) 325 [.str z, .int A.length] S = .ok (.v (.tup [.int i, .int ((A.length + (intL i).length : Nat) : Int)])) S := by
  rw [call_eq h rfl]
  have hs : z.length ≤ sizeLine := by rw [szl]; omega
  have hsl : ∀ i j S, slRV (.v (.str z)) i j S = some (.v (.str (cutS z i j))) := fun i j S => sl_str hs
  have hi2 : (intL i).length ≤ 21 := intL_len (k := 20) (by decide) hb
  suffices g : evalB ⟨evalFn Pr gl fuel k, gl, fuel⟩ fd_integer_at.body (enter fd_integer_at [.str z, .int A.length]) S = .rt (.v (.tup [.int i, .int ((A.length + (intL i).length : Nat) : Int)])) S by
    rw [g]
    simp only [finR, gc_v0 (x := .tup [.int i, .int _]) rfl]
  have hbody : ∃ s, fd_integer_at.body = .cons s (tlB fd_integer_at.body) := ⟨_, rfl⟩
  have cm := cut_mid hz
  cases i with
  | ofNat n =>
    have hi2 : (numL n).length ≤ 21 := hi2
    have hz : tl z = A ++ (numL n ++ R) := hz
    have hdig := numL_digits n
    obtain ⟨d, D, e, hd0⟩ : ∃ d D, numL n = d :: D ∧ (d = 48 → D = []) := by
      by_cases h0 : n = 0
      · subst h0; exact ⟨48, [], rfl, fun _ => rfl⟩
      · obtain ⟨d, r, e, h1, h2⟩ := numL_head n (by omega)
        exact ⟨d, r, e, fun z => by omega⟩
    rw [e] at hz hi2
    have hdd : ∀ c ∈ d :: D, 48 ≤ c ∧ c ≤ 57 := fun c hc => hdig c (by rw [e]; exact hc)
    have el : (intL (Int.ofNat n)).length = D.length + 1 := by show (numL n).length = _; rw [e]; rfl
    have c0 := cut_hit (z := z) (A := A) (c := d) (R := D ++ R) hz
    have e45 : decide ((⟨#[d]⟩ : Str) = ("-" : Str)) = false := by
      rw [sgd (d := 45) rfl]
      exact decide_eq_false fun z => by have := hdd d List.mem_cons_self; omega
    have cm2 : tl (cutS z (some (A.length : Int)) (some ((A.length + 1 + D.length : Nat) : Int))) = intL (Int.ofNat n) := by
      rw [el, show A.length + (D.length + 1) = A.length + 1 + D.length by omega] at cm
      exact cm
    have t := int_tail (P := ⟨evalFn Pr gl fuel k, gl, fuel⟩) (S := S) (A := A) (A' := A) (D := D) (R := R) (d := d) (i := Int.ofNat n) h7 h20 hf hz hl (hdd d List.mem_cons_self) (fun c hc => hdd c (List.mem_cons_of_mem _ hc)) (fun z => ⟨hd0 z, rfl⟩) (by simp at hi2; omega) hR cm2 (by omega)
    rw [el, show A.length + (D.length + 1) = A.length + 1 + D.length by omega, ← t]
    have first : evalB ⟨evalFn Pr gl fuel k, gl, fuel⟩ (.cons (.asg (.name 2) (.ife (.cmp .eq (.slc (.var 0) (.e (.var 1)) (.e (.bin .add (.var 1) (.int 1)))) (.str "-")) (.bin .add (.var 1) (.int 1)) (.var 1))) .nil) (enter fd_integer_at [.str z, .int A.length]) S = .nx [some (.str z), some (.int A.length), some (.int A.length), none, none] S := by
      simp only [fd_integer_at, decide_true, decide_false, enter, List.map_cons, List.map_nil, List.length_cons, List.length_nil, List.cons_append, List.nil_append, Nat.reduceAdd, Nat.reduceSub, List.replicate, evalB, evalS, evalE, evalT, evalA, evalR, evalO, evalI, evalC, List.getElem?_cons_zero, List.getElem?_cons_succ, List.set_cons_zero, List.set_cons_succ, bind_ok, st_ok, seq_nx, seq_rt, seq_bk, seq_ct, of_some, ofS_some, ofB_some, bi_int, bi_lenT, bi_lenL, bi_lenR, bi_tupL, bi_tupR, bi_lens, bi_str, bi_ints, bin_add, bin_sub, bin_mul, bin_fdiv, bin_mod, bin_adds, bin_addt, bin_pow, Int.reduceLT, Int.reduceLE, Int.reduceAbs, Nat.reduceLT, Nat.reduceLeDiff, cmpRV, rdSeq, rdList, myList, ix_str, sl_str, isi_int_non, isi_int_bool, isi_int_int, isi_int_str, isi_int_tup, isi_bool_non, isi_bool_bool, isi_bool_int, isi_bool_str, isi_bool_tup, isi_str_non, isi_str_bool, isi_str_int, isi_str_str, isi_str_tup, isi_tuple_non, isi_tuple_bool, isi_tuple_int, isi_tuple_str, isi_tuple_tup, isi_list_non, isi_list_bool, isi_list_int, isi_list_str, isi_list_tup, isi_dict_non, isi_dict_bool, isi_dict_int, isi_dict_str, isi_dict_tup, isn_non, isn_bool, isn_int, isn_str, isn_tup, isb_true_non, isb_true_int, isb_true_str, isb_true_tup, isb_true_true, isb_true_false, isb_false_non, isb_false_int, isb_false_str, isb_false_tup, isb_false_true, isb_false_false, truthy, settle, bindT, bindTs, unpk, recv, isLst, isTxt, sz0, sz1, sz2, sz3, sz4, sz5, sz6, Option.map_some, if_true, if_false, Bool.false_eq_true, eqRV_int, Bool.not_true, Bool.not_false, forget, hsl, c0, e45]
    show (evalS _ _ _ _).seq _ = _
    have f2 : evalS ⟨evalFn Pr gl fuel k, gl, fuel⟩ (.asg (.name 2) (.ife (.cmp .eq (.slc (.var 0) (.e (.var 1)) (.e (.bin .add (.var 1) (.int 1)))) (.str "-")) (.bin .add (.var 1) (.int 1)) (.var 1))) (enter fd_integer_at [.str z, .int A.length]) S = .nx [some (.str z), some (.int A.length), some (.int A.length), none, none] S := by
      simp only [fd_integer_at, decide_true, decide_false, enter, List.map_cons, List.map_nil, List.length_cons, List.length_nil, List.cons_append, List.nil_append, Nat.reduceAdd, Nat.reduceSub, List.replicate, evalB, evalS, evalE, evalT, evalA, evalR, evalO, evalI, evalC, List.getElem?_cons_zero, List.getElem?_cons_succ, List.set_cons_zero, List.set_cons_succ, bind_ok, st_ok, seq_nx, seq_rt, seq_bk, seq_ct, of_some, ofS_some, ofB_some, bi_int, bi_lenT, bi_lenL, bi_lenR, bi_tupL, bi_tupR, bi_lens, bi_str, bi_ints, bin_add, bin_sub, bin_mul, bin_fdiv, bin_mod, bin_adds, bin_addt, bin_pow, Int.reduceLT, Int.reduceLE, Int.reduceAbs, Nat.reduceLT, Nat.reduceLeDiff, cmpRV, rdSeq, rdList, myList, ix_str, sl_str, isi_int_non, isi_int_bool, isi_int_int, isi_int_str, isi_int_tup, isi_bool_non, isi_bool_bool, isi_bool_int, isi_bool_str, isi_bool_tup, isi_str_non, isi_str_bool, isi_str_int, isi_str_str, isi_str_tup, isi_tuple_non, isi_tuple_bool, isi_tuple_int, isi_tuple_str, isi_tuple_tup, isi_list_non, isi_list_bool, isi_list_int, isi_list_str, isi_list_tup, isi_dict_non, isi_dict_bool, isi_dict_int, isi_dict_str, isi_dict_tup, isn_non, isn_bool, isn_int, isn_str, isn_tup, isb_true_non, isb_true_int, isb_true_str, isb_true_tup, isb_true_true, isb_true_false, isb_false_non, isb_false_int, isb_false_str, isb_false_tup, isb_false_true, isb_false_false, truthy, settle, bindT, bindTs, unpk, recv, isLst, isTxt, sz0, sz1, sz2, sz3, sz4, sz5, sz6, Option.map_some, if_true, if_false, Bool.false_eq_true, eqRV_int, Bool.not_true, Bool.not_false, forget, hsl, c0, e45]
    exact congrArg (fun r : SR => r.seq fun e S1 => evalB ⟨evalFn Pr gl fuel k, gl, fuel⟩ (tlB fd_integer_at.body) e S1) f2
  | negSucc n =>
    have hi2 : (45 :: numL (n + 1)).length ≤ 21 := hi2
    have hz0 : tl z = A ++ 45 :: (numL (n + 1) ++ R) := hz
    have hdig := numL_digits (n + 1)
    obtain ⟨d, D, e, h1, h2⟩ := numL_head (n + 1) (by omega)
    rw [e] at hi2
    have hdd : ∀ c ∈ d :: D, 48 ≤ c ∧ c ≤ 57 := fun c hc => hdig c (by rw [e]; exact hc)
    have el : (intL (Int.negSucc n)).length = D.length + 2 := by show (45 :: numL (n + 1)).length = _; rw [e]; rfl
    have c0 := cut_hit (z := z) (A := A) (c := 45) (R := numL (n + 1) ++ R) hz0
    have e45 : decide ((⟨#[45]⟩ : Str) = ("-" : Str)) = true := by
      rw [sgd (d := 45) rfl]
      exact decide_eq_true rfl
    have la : (A ++ [45]).length = A.length + 1 := by simp
    have cm2 : tl (cutS z (some (A.length : Int)) (some (((A ++ [45]).length + 1 + D.length : Nat) : Int))) = intL (Int.negSucc n) := by
      rw [el, show A.length + (D.length + 2) = (A ++ [45]).length + 1 + D.length by rw [la]; omega] at cm
      exact cm
    have hz1 : tl z = (A ++ [45]) ++ (d :: (D ++ R)) := by rw [hz0, e]; simp
    have t := int_tail (P := ⟨evalFn Pr gl fuel k, gl, fuel⟩) (S := S) (A := A) (A' := A ++ [45]) (D := D) (R := R) (d := d) (i := Int.negSucc n) h7 h20 hf hz1 hl (hdd d List.mem_cons_self) (fun c hc => hdd c (List.mem_cons_of_mem _ hc)) (fun z => by omega) (by simp at hi2; omega) hR cm2 (by omega)
    rw [el, show A.length + (D.length + 2) = (A ++ [45]).length + 1 + D.length by rw [la]; omega, ← t]
    have f2 : evalS ⟨evalFn Pr gl fuel k, gl, fuel⟩ (.asg (.name 2) (.ife (.cmp .eq (.slc (.var 0) (.e (.var 1)) (.e (.bin .add (.var 1) (.int 1)))) (.str "-")) (.bin .add (.var 1) (.int 1)) (.var 1))) (enter fd_integer_at [.str z, .int A.length]) S = .nx [some (.str z), some (.int A.length), some (.int (A ++ [45]).length), none, none] S := by
      rw [la]
      simp only [fd_integer_at, decide_true, decide_false, enter, List.map_cons, List.map_nil, List.length_cons, List.length_nil, List.cons_append, List.nil_append, Nat.reduceAdd, Nat.reduceSub, List.replicate, evalB, evalS, evalE, evalT, evalA, evalR, evalO, evalI, evalC, List.getElem?_cons_zero, List.getElem?_cons_succ, List.set_cons_zero, List.set_cons_succ, bind_ok, st_ok, seq_nx, seq_rt, seq_bk, seq_ct, of_some, ofS_some, ofB_some, bi_int, bi_lenT, bi_lenL, bi_lenR, bi_tupL, bi_tupR, bi_lens, bi_str, bi_ints, bin_add, bin_sub, bin_mul, bin_fdiv, bin_mod, bin_adds, bin_addt, bin_pow, Int.reduceLT, Int.reduceLE, Int.reduceAbs, Nat.reduceLT, Nat.reduceLeDiff, cmpRV, rdSeq, rdList, myList, ix_str, sl_str, isi_int_non, isi_int_bool, isi_int_int, isi_int_str, isi_int_tup, isi_bool_non, isi_bool_bool, isi_bool_int, isi_bool_str, isi_bool_tup, isi_str_non, isi_str_bool, isi_str_int, isi_str_str, isi_str_tup, isi_tuple_non, isi_tuple_bool, isi_tuple_int, isi_tuple_str, isi_tuple_tup, isi_list_non, isi_list_bool, isi_list_int, isi_list_str, isi_list_tup, isi_dict_non, isi_dict_bool, isi_dict_int, isi_dict_str, isi_dict_tup, isn_non, isn_bool, isn_int, isn_str, isn_tup, isb_true_non, isb_true_int, isb_true_str, isb_true_tup, isb_true_true, isb_true_false, isb_false_non, isb_false_int, isb_false_str, isb_false_tup, isb_false_true, isb_false_false, truthy, settle, bindT, bindTs, unpk, recv, isLst, isTxt, sz0, sz1, sz2, sz3, sz4, sz5, sz6, Option.map_some, if_true, if_false, Bool.false_eq_true, eqRV_int, Bool.not_true, Bool.not_false, forget, hsl, c0, e45]
      rfl
    exact congrArg (fun r : SR => r.seq fun e S1 => evalB ⟨evalFn Pr gl fuel k, gl, fuel⟩ (tlB fd_integer_at.body) e S1) f2
/-! ### texts -/
theorem split34 : ∀ l : List Nat, 34 ∈ l → ∃ B R, l = B ++ 34 :: R ∧ 34 ∉ B
  | [], h => nomatch h
  | c :: l, h => by
    by_cases hc : c = 34
    · subst hc; exact ⟨[], l, rfl, by simp⟩
    · obtain ⟨B, R, e, hB⟩ := split34 l (by rcases List.mem_cons.mp h with e | e; exact absurd e.symm hc; exact e)
      exact ⟨c :: B, R, by rw [e]; rfl, fun z => by rcases List.mem_cons.mp z with e | e; exact hc e.symm; exact hB e⟩
theorem splitS : ∀ l : List Nat, ∃ u t, l = u ++ t ∧ (∀ c ∈ u, c ≠ 34 ∧ c ≠ 92 ∧ c ≠ 10) ∧ (t = [] ∨ ∃ c t', t = c :: t' ∧ (c = 34 ∨ c = 92 ∨ c = 10))
  | [] => ⟨[], [], rfl, fun c h => (nomatch h), .inl rfl⟩
  | c :: l => by
    by_cases hc : c = 34 ∨ c = 92 ∨ c = 10
    · exact ⟨[], c :: l, rfl, fun c h => (nomatch h), .inr ⟨c, l, rfl, hc⟩⟩
    · obtain ⟨u, t, e, h1, h2⟩ := splitS l
      refine ⟨c :: u, t, by rw [e]; rfl, fun x hx => ?_, h2⟩
      rcases List.mem_cons.mp hx with rfl | h
      · omega
      · exact h1 x h
theorem escL_app (u t : List Nat) : escL (u ++ t) = escL u ++ escL t := by simp [escL]
theorem escL_free : ∀ u : List Nat, (∀ c ∈ u, c ≠ 34 ∧ c ≠ 92 ∧ c ≠ 10) → escL u = u
  | [], _ => rfl
  | c :: u, h => by
    have hc := h c List.mem_cons_self
    have e : escL (c :: u) = (if c = 92 then [92, 92] else if c = 34 then [92, 34] else if c = 10 then [92, 110] else [c]) ++ escL u := rfl
    rw [e, escL_free u fun x hx => h x (List.mem_cons_of_mem _ hx), if_neg hc.2.1, if_neg hc.1, if_neg hc.2.2]
    rfl
def escC (c : Nat) : Nat := if c = 10 then 110 else c
theorem escL_sp {c : Nat} (h : c = 34 ∨ c = 92 ∨ c = 10) (t : List Nat) : escL (c :: t) = 92 :: escC c :: escL t := by
  rcases h with rfl | rfl | rfl <;> rfl
theorem flat_strs (ys : List Str) : tl (Txt.join "" ys) = (ys.map tl).flatten := by
  rw [join_eq, tl_join, show tl ("" : Str) = [] from rfl]
  generalize ys.map tl = ps
  induction ps with
  | nil => rfl
  | cons p ps ih =>
    cases ps with
    | nil => simp [joinL]
    | cons q r =>
      have e : joinL [] (p :: q :: r) = p ++ ([] ++ joinL [] (q :: r)) := rfl
      rw [e, ih]
      simp
theorem behind_in {c : Nat} {S : Store} (h : c = 34 ∨ c = 92 ∨ c = 10) : memRV (.v (.str ⟨#[escC c]⟩)) (.v (.tup [.str "\"", .str "\\", .str "n"])) S = some true := by
  rcases h with rfl | rfl | rfl <;> rfl
abbrev txEnv (z : Str) (p : Int) (n : Nat) (a b c d e : Option PV) : PEnv := [some (.str z), some (.int p), some (.ref n), a, b, c, d, e]
theorem text_ok {k : Nat} (h : Pr 542 = some fd_text_at) {z : Str} {A R : List Nat} {w : Str} (hf : w.length < fuel) (hz : tl z = A ++ (escL (tl w) ++ 34 :: R)) (hl : z.length ≤ 200000) :
    evalFn Pr gl fuel (k + 1) 542 [.str z, .int A.length] S = .ok (.v (.tup [.str w, .int ((A.length + (escL (tl w)).length + 1 : Nat) : Int)])) S := by
  rw [call_eq h rfl]
  have hs : z.length ≤ sizeLine := by rw [szl]; omega
  have hlen : z.length = (tl z).length := len_tl z
  have hsl : ∀ i j S, slRV (.v (.str z)) i j S = some (.v (.str (cutS z i j))) := fun i j S => sl_str hs
  have f2 : ∀ (y : Str) (i : Int) S, meRV .find (.v (.str z)) [.v (.str y), .v (.int i)] S = some (.v (.int (Txt.find3 z y i)), S) := fun _ _ _ => rfl
  have f3 : ∀ (y : Str) (i j : Int) S, meRV .find (.v (.str z)) [.v (.str y), .v (.int i), .v (.int j)] S = some (.v (.int (Txt.findIn z y i j)), S) := fun _ _ _ _ => rfl
  have L := while_eval (P := ⟨evalFn Pr gl fuel k, gl, fuel⟩) (c := wt_text_at_1) (b := bd_text_at_2) (env := txEnv z A.length S.length none none none none none) (S := S ++ [.lst []])
    (I := fun n env S' => ∃ (A1 : List Nat) (rest done : List Nat) (ys : List Str) (a b c d e : Option PV), env = txEnv z A1.length S.length a b c d e ∧ S' = S ++ [.lst (ys.map .str)] ∧ tl w = done ++ rest ∧ (ys.map tl).flatten = done ∧ tl z = A1 ++ (escL rest ++ 34 :: R) ∧ ys.length + 2 * rest.length ≤ 2 * w.length ∧ n = rest.length)
    (Post := fun r => r = .rt (.v (.tup [.str w, .int ((A.length + (escL (tl w)).length + 1 : Nat) : Int)])) (S ++ [.lst []]) ∨ ∃ G, r = .rt (.v (.tup [.str w, .int ((A.length + (escL (tl w)).length + 1 : Nat) : Int)])) (S ++ G)) ?_ w.length hf ⟨A, tl w, [], [], none, none, none, none, none, rfl, rfl, rfl, rfl, hz, by rw [len_tl]; simp, len_tl w⟩
  · rw [← ws_text_at_3] at L
    have L' : ∃ G, evalS ⟨evalFn Pr gl fuel k, gl, fuel⟩ ws_text_at_3 (txEnv z A.length S.length none none none none none) (S ++ [.lst []]) = .rt (.v (.tup [.str w, .int ((A.length + (escL (tl w)).length + 1 : Nat) : Int)])) (S ++ G) := by
      rcases L with L | L
      · exact ⟨_, L⟩
      · exact L
    obtain ⟨G, L⟩ := L'
    simp only [fd_text_at, decide_true, decide_false, enter, List.map_cons, List.map_nil, List.length_cons, List.length_nil, List.cons_append, List.nil_append, Nat.reduceAdd, Nat.reduceSub, List.replicate, evalB, evalS, evalE, evalT, evalA, evalR, evalO, evalI, evalC, List.getElem?_cons_zero, List.getElem?_cons_succ, List.set_cons_zero, List.set_cons_succ, bind_ok, st_ok, seq_nx, seq_rt, seq_bk, seq_ct, of_some, ofS_some, ofB_some, bi_int, bi_lenT, bi_lenL, bi_lenR, bi_tupL, bi_tupR, bi_lens, bi_str, bi_ints, bin_add, bin_sub, bin_mul, bin_fdiv, bin_mod, bin_adds, bin_addt, bin_pow, Int.reduceLT, Int.reduceLE, Int.reduceAbs, Nat.reduceLT, Nat.reduceLeDiff, cmpRV, rdSeq, rdList, myList, ix_str, sl_str, isi_int_non, isi_int_bool, isi_int_int, isi_int_str, isi_int_tup, isi_bool_non, isi_bool_bool, isi_bool_int, isi_bool_str, isi_bool_tup, isi_str_non, isi_str_bool, isi_str_int, isi_str_str, isi_str_tup, isi_tuple_non, isi_tuple_bool, isi_tuple_int, isi_tuple_str, isi_tuple_tup, isi_list_non, isi_list_bool, isi_list_int, isi_list_str, isi_list_tup, isi_dict_non, isi_dict_bool, isi_dict_int, isi_dict_str, isi_dict_tup, isn_non, isn_bool, isn_int, isn_str, isn_tup, isb_true_non, isb_true_int, isb_true_str, isb_true_tup, isb_true_true, isb_true_false, isb_false_non, isb_false_int, isb_false_str, isb_false_tup, isb_false_true, isb_false_false, truthy, settle, bindT, bindTs, unpk, recv, isLst, isTxt, sz0, sz1, sz2, sz3, sz4, sz5, sz6, Option.map_some, if_true, if_false, Bool.false_eq_true, eqRV_int, Bool.not_true, Bool.not_false, forget, L, finR, gc_v (x := .tup [.str w, .int _]) rfl]
  · rintro n env S' ⟨A1, rest, done, ys, a, b, c, d, e, rfl, rfl, h1, h2, h3, h4, rfl⟩
    obtain ⟨u, t, rfl, hu, ht⟩ := splitS rest
    have u34 : 34 ∉ u := fun z => (hu _ z).1 rfl
    have u92 : 92 ∉ u := fun z => (hu _ z).2.1 rfl
    have u10 : 10 ∉ u := fun z => (hu _ z).2.2 rfl
    rw [escL_app, escL_free u hu] at h3
    have wl : w.length ≤ 200000 := by
      have q1 : (tl w).length ≤ (escL (tl w)).length := by
        have : ∀ l : List Nat, l.length ≤ (escL l).length := by
          intro l
          induction l with
          | nil => exact Nat.le_refl _
          | cons c l ih =>
            have e : escL (c :: l) = (if c = 92 then [92, 92] else if c = 34 then [92, 34] else if c = 10 then [92, 110] else [c]) ++ escL l := rfl
            rw [e, List.length_append, List.length_cons]
            have : 1 ≤ (if c = 92 then [92, 92] else if c = 34 then [92, 34] else if c = 10 then [92, 110] else [c]).length := by
              split
              · decide
              · split
                · decide
                · split
                  · decide
                  · exact Nat.le_refl _
            omega
        exact this _
      have q2 := congrArg List.length hz
      rw [List.length_append, List.length_append, ← hlen] at q2
      rw [len_tl]
      omega
    have lys : ∀ y : PV, (ys.map PV.str).length < sizeLine := fun _ => by rw [szl]; simp; omega
    have ge : ∀ q : Nat, decide ((0 : Int) ≤ (q : Int)) = true := fun q => decide_eq_true (by omega)
    have gm : decide ((0 : Int) ≤ (-1 : Int)) = false := rfl
    refine .inr ⟨_, rfl, ?_⟩
    rcases ht with rfl | ⟨c, t', rfl, hc⟩
    · have h3 : tl z = A1 ++ (u ++ 34 :: R) := h3.trans (by simp [escL])
      have q1 := find3_hit (x := z) (y := "\"") (c := 34) rfl h3 u34
      have q2 := findIn_miss (x := z) (y := "\\") (c := 92) (A := A1) (B := u) rfl h3 u92
      have q3 := findIn_miss (x := z) (y := "\n") (c := 10) (A := A1) (B := u) rfl h3 u10
      have q4 := cut_mid h3
      have hcat : tl (Txt.join "" (ys ++ [cutS z (some (A1.length : Int)) (some ((A1.length + u.length : Nat) : Int))])) = tl w := by
        rw [flat_strs, List.map_append, List.flatten_append, h2, h1]
        simp only [List.map_cons, List.map_nil, List.flatten_cons, List.flatten_nil, List.append_nil, q4]
      have hcat := ext_tl hcat
      have hend : (A1.length + u.length : Nat) + 1 = A.length + (escL (tl w)).length + 1 := by
        have q5 := congrArg List.length hz
        have q6 := congrArg List.length h3
        simp only [List.length_append, List.length_cons] at q5 q6
        omega
      have jk : joinOk "" (ys ++ [cutS z (some (A1.length : Int)) (some ((A1.length + u.length : Nat) : Int))]) = true := decide_eq_true (by
        have : ∀ l : List Str, (l.map (·.length)).sum = (l.map tl).flatten.length := by
          intro l
          induction l with
          | nil => rfl
          | cons y l ih => rw [List.map_cons, List.sum_cons, ih, List.map_cons, List.flatten_cons, List.length_append, len_tl]
        rw [this, ← flat_strs, hcat, ← len_tl, show ("" : Str).length = 0 from rfl]
        omega)
      have app : ∀ y, meRV .append (.v (.ref S.length)) [.v y] (S ++ [MO.lst (ys.map .str)]) = some (.v .non, S ++ [.lst (ys.map .str ++ [y])]) := fun y => by
        rw [me_app get_new (lys y), set_new]
      have ms : ∀ y, ys.map PV.str ++ [PV.str y] = (ys ++ [y]).map .str := fun y => by simp
      have g2 : (S ++ [MO.lst ((ys ++ [cutS z (some (A1.length : Int)) (some ((A1.length + u.length : Nat) : Int))]).map .str)])[S.length]? = some (.lst ((ys ++ [cutS z (some (A1.length : Int)) (some ((A1.length + u.length : Nat) : Int))]).map .str)) := get_new
      have jn := me_joinR (x := "") g2 jk
      rw [hcat] at jn
      have gg : (S ++ [MO.lst (ys.map PV.str)])[S.length]? = some (.lst (ys.map .str)) := get_new
      simp only [bd_text_at_2, decide_true, decide_false, enter, List.map_cons, List.map_nil, List.length_cons, List.length_nil, List.cons_append, List.nil_append, Nat.reduceAdd, Nat.reduceSub, List.replicate, evalB, evalS, evalE, evalT, evalA, evalR, evalO, evalI, evalC, List.getElem?_cons_zero, List.getElem?_cons_succ, List.set_cons_zero, List.set_cons_succ, bind_ok, st_ok, seq_nx, seq_rt, seq_bk, seq_ct, of_some, ofS_some, ofB_some, bi_int, bi_lenT, bi_lenL, bi_lenR, bi_tupL, bi_tupR, bi_lens, bi_str, bi_ints, bin_add, bin_sub, bin_mul, bin_fdiv, bin_mod, bin_adds, bin_addt, bin_pow, Int.reduceLT, Int.reduceLE, Int.reduceAbs, Nat.reduceLT, Nat.reduceLeDiff, cmpRV, rdSeq, rdList, myList, ix_str, sl_str, isi_int_non, isi_int_bool, isi_int_int, isi_int_str, isi_int_tup, isi_bool_non, isi_bool_bool, isi_bool_int, isi_bool_str, isi_bool_tup, isi_str_non, isi_str_bool, isi_str_int, isi_str_str, isi_str_tup, isi_tuple_non, isi_tuple_bool, isi_tuple_int, isi_tuple_str, isi_tuple_tup, isi_list_non, isi_list_bool, isi_list_int, isi_list_str, isi_list_tup, isi_dict_non, isi_dict_bool, isi_dict_int, isi_dict_str, isi_dict_tup, isn_non, isn_bool, isn_int, isn_str, isn_tup, isb_true_non, isb_true_int, isb_true_str, isb_true_tup, isb_true_true, isb_true_false, isb_false_non, isb_false_int, isb_false_str, isb_false_tup, isb_false_true, isb_false_false, truthy, settle, bindT, bindTs, unpk, recv, isLst, isTxt, sz0, sz1, sz2, sz3, sz4, sz5, sz6, Option.map_some, if_true, if_false, Bool.false_eq_true, eqRV_int, Bool.not_true, Bool.not_false, forget, f2, f3, q1, q2, q3, ge, gm, hsl, gg, app, ms, decide_true, jn]
      exact .inr ⟨_, by rw [← hend]; rfl⟩
    · have hE : escL (c :: t') = 92 :: escC c :: escL t' := escL_sp hc t'
      rw [hE] at h3
      have h3 : tl z = A1 ++ (u ++ 92 :: (escC c :: (escL t' ++ 34 :: R))) := h3.trans (by simp)
      obtain ⟨B, R', hB, hB34⟩ := split34 (escC c :: (escL t' ++ 34 :: R)) (by simp)
      have h3q : tl z = A1 ++ ((u ++ 92 :: B) ++ 34 :: R') := by rw [h3, hB]; simp
      have q1 := find3_hit (x := z) (y := "\"") (c := 34) rfl h3q (by
        intro m
        rcases List.mem_append.mp m with m | m
        · exact u34 m
        · rcases List.mem_cons.mp m with m | m
          · cases m
          · exact hB34 m)
      have lq : A1.length + (u ++ 92 :: B).length ≤ z.length := by
        have := congrArg List.length h3q
        simp only [List.length_append, List.length_cons] at this ⊢
        omega
      have lq2 : (u ++ 92 :: B).length = u.length + 1 + B.length := by simp; omega
      have q2 := findIn_hit (x := z) (y := "\\") (c := 92) (hi := A1.length + (u ++ 92 :: B).length) (A := A1) (B := u) rfl h3 u92 (by omega) lq
      have q3 := findIn_miss (x := z) (y := "\n") (c := 10) (A := A1) (B := u) rfl h3 u10
      have q4 := cut_mid h3
      have h3' : tl z = (A1 ++ u ++ [92]) ++ escC c :: (escL t' ++ 34 :: R) := by rw [h3]; simp
      have q5 := cut_hit h3'
      have l5 : (A1 ++ u ++ [92]).length = A1.length + u.length + 1 := by simp; omega
      rw [l5, show ((A1.length + u.length + 1 : Nat) : Int) = ((A1.length + u.length : Nat) : Int) + 1 from rfl, show ((A1.length + u.length : Nat) : Int) + 1 + 1 = ((A1.length + u.length : Nat) : Int) + 2 by omega] at q5
      have n1 : decide (((A1.length + u.length : Nat) : Int) = ((A1.length + (u ++ 92 :: B).length : Nat) : Int)) = false := decide_eq_false (by omega)
      have app : ∀ y, meRV .append (.v (.ref S.length)) [.v y] (S ++ [MO.lst (ys.map .str)]) = some (.v .non, S ++ [.lst (ys.map .str ++ [y])]) := fun y => by
        rw [me_app get_new (lys y), set_new]
      have app2 : ∀ y y2, meRV .append (.v (.ref S.length)) [.v y2] (S ++ [MO.lst (ys.map .str ++ [y])]) = some (.v .non, S ++ [.lst (ys.map .str ++ [y] ++ [y2])]) := fun y y2 => by
        rw [me_app get_new (by rw [szl]; simp; omega), set_new]
      have gg : ∀ xs, (S ++ [MO.lst xs])[S.length]? = some (.lst xs) := fun xs => get_new
      have n2 : decide ((⟨#[escC c]⟩ : Str) = ("" : Str)) = false := sge
      have n3 : decide ((⟨#[escC c]⟩ : Str) = ("n" : Str)) = decide (c = 10) := by
        rw [sgd (d := 110) rfl]
        rcases hc with rfl | rfl | rfl <;> rfl
      have n4 : ∀ (S : Store), (if decide (c = 10) = true then (Res.ok (RV.v (.str "\n")) S : Res RV) else .ok (.v (.str ⟨#[escC c]⟩)) S) = .ok (.v (.str ⟨#[c]⟩)) S := fun S => by
        rcases hc with rfl | rfl | rfl <;> rfl
      simp only [bd_text_at_2, decide_true, decide_false, enter, List.map_cons, List.map_nil, List.length_cons, List.length_nil, List.cons_append, List.nil_append, Nat.reduceAdd, Nat.reduceSub, List.replicate, evalB, evalS, evalE, evalT, evalA, evalR, evalO, evalI, evalC, List.getElem?_cons_zero, List.getElem?_cons_succ, List.set_cons_zero, List.set_cons_succ, bind_ok, st_ok, seq_nx, seq_rt, seq_bk, seq_ct, of_some, ofS_some, ofB_some, bi_int, bi_lenT, bi_lenL, bi_lenR, bi_tupL, bi_tupR, bi_lens, bi_str, bi_ints, bin_add, bin_sub, bin_mul, bin_fdiv, bin_mod, bin_adds, bin_addt, bin_pow, Int.reduceLT, Int.reduceLE, Int.reduceAbs, Nat.reduceLT, Nat.reduceLeDiff, cmpRV, rdSeq, rdList, myList, ix_str, sl_str, isi_int_non, isi_int_bool, isi_int_int, isi_int_str, isi_int_tup, isi_bool_non, isi_bool_bool, isi_bool_int, isi_bool_str, isi_bool_tup, isi_str_non, isi_str_bool, isi_str_int, isi_str_str, isi_str_tup, isi_tuple_non, isi_tuple_bool, isi_tuple_int, isi_tuple_str, isi_tuple_tup, isi_list_non, isi_list_bool, isi_list_int, isi_list_str, isi_list_tup, isi_dict_non, isi_dict_bool, isi_dict_int, isi_dict_str, isi_dict_tup, isn_non, isn_bool, isn_int, isn_str, isn_tup, isb_true_non, isb_true_int, isb_true_str, isb_true_tup, isb_true_true, isb_true_false, isb_false_non, isb_false_int, isb_false_str, isb_false_tup, isb_false_true, isb_false_false, truthy, settle, bindT, bindTs, unpk, recv, isLst, isTxt, sz0, sz1, sz2, sz3, sz4, sz5, sz6, Option.map_some, if_true, if_false, Bool.false_eq_true, eqRV_int, Bool.not_true, Bool.not_false, forget, f2, f3, q1, q2, q3, ge, gm, hsl, gg, app, app2, n1, decide_true, q5, n2, n3, n4, behind_in hc]
      refine ⟨t'.length, by simp; omega, A1 ++ u ++ [92, escC c], t', done ++ u ++ [c], ys ++ [cutS z (some (A1.length : Int)) (some ((A1.length + u.length : Nat) : Int))] ++ [⟨#[c]⟩], some (.int ((A1.length + (u ++ 92 :: B).length : Nat) : Int)), some (.int ((A1.length + u.length : Nat) : Int)), some (.int ((A1.length + u.length : Nat) : Int)), some (.int (-1)), some (.str ⟨#[escC c]⟩), ?_, ?_, ?_, ?_, ?_, ?_, rfl⟩
      · have : (A1 ++ u ++ [92, escC c]).length = A1.length + u.length + 2 := by simp; omega
        rw [this]
        rfl
      · simp
      · rw [h1]; simp
      · rw [List.map_append, List.map_append, List.flatten_append, List.flatten_append, h2]
        simp only [List.map_cons, List.map_nil, List.flatten_cons, List.flatten_nil, List.append_nil, q4]
      · rw [h3]; simp
      · simp at h4 ⊢; omega
end
end Deep

set_option Elab.async false
set_option linter.all false
set_option maxRecDepth 100000
set_option maxHeartbeats 1000000
namespace Deep
open PySem PySem.Spec PyProof.Rows L2 PySem.StrLaws TL
section
variable {Pr : Prog} {gl : Nat → Option PV} {fuel : Nat} {S : Store}
theorem nodig_cons {c : Nat} {R : List Nat} (h : c < 48 ∨ 57 < c) : nodig (c :: R) := fun d r e => by
  have := (List.cons.inj e).1
  omega
theorem pTL_ne {xs : List PV} : pTL xs = [] → xs = [] := fun h => by
  cases xs with
  | nil => rfl
  | cons x xs => cases h
theorem str_le (w : Str) : w.length ≤ (escL (tl w)).length := by
  rw [len_tl]
  generalize tl w = l
  induction l with
  | nil => exact Nat.le_refl _
  | cons c l ih =>
    have e : escL (c :: l) = (if c = 92 then [92, 92] else if c = 34 then [92, 34] else if c = 10 then [92, 110] else [c]) ++ escL l := rfl
    rw [e, List.length_append, List.length_cons]
    have : 1 ≤ (if c = 92 then [92, 92] else if c = 34 then [92, 34] else if c = 10 then [92, 110] else [c]).length := by
      split
      · decide
      · split
        · decide
        · split
          · decide
          · exact Nat.le_refl _
    omega
/-- a tuple's text, from behind its bracket -/
theorem tuple_ok {k : Nat} (h : Pr 553 = some fd_tuple_at) {z : Str} {A R : List Nat} {xs : List PV} {wi : Int} (hf : xs.length < fuel) (hp : plainL xs = true) (hz : tl z = A ++ (joinL [32] (pTL xs) ++ 41 :: R)) (hl : z.length ≤ 200000) (hx : xs.length ≤ 200000)
    (hh : ∀ x ∈ xs, ∃ c r, pT x = c :: r ∧ c ≠ 41)
    (hv : ∀ x ∈ xs, ∀ A R S, tl z = A ++ (pT x ++ R) → nodig R → evalFn Pr gl fuel k 564 [.str z, .int ((A.length : Nat) : Int), .int wi] S = .ok (.v (.tup [x, .int ((A.length + (pT x).length : Nat) : Int)])) S) :
    evalFn Pr gl fuel (k + 1) 553 [.str z, .int A.length, .int wi] S = .ok (.v (.tup [.tup xs, .int ((A.length + (joinL [32] (pTL xs)).length + 1 : Nat) : Int)])) S := by
  rw [call_eq h rfl]
  have hs : z.length ≤ sizeLine := by rw [szl]; omega
  have hsl : ∀ i j S, slRV (.v (.str z)) i j S = some (.v (.str (cutS z i j))) := fun i j S => sl_str hs
  have un : PV.under S.length (.tup [.tup xs, .int ((A.length + (joinL [32] (pTL xs)).length + 1 : Nat) : Int)]) = true := by
    show (PV.underL S.length xs && true) = true
    rw [plainL_under hp]; rfl
  cases xs with
  | nil =>
    have c0 := cut_hit (z := z) (A := A) (c := 41) (R := R) hz
    have e0 : decide ((⟨#[41]⟩ : Str) = (")" : Str)) = true := by rw [sgd (d := 41) rfl]; exact decide_eq_true rfl
    simp only [fd_tuple_at, decide_true, decide_false, enter, List.map_cons, List.map_nil, List.length_cons, List.length_nil, List.cons_append, List.nil_append, Nat.reduceAdd, Nat.reduceSub, List.replicate, evalB, evalS, evalE, evalT, evalA, evalR, evalO, evalI, evalC, List.getElem?_cons_zero, List.getElem?_cons_succ, List.set_cons_zero, List.set_cons_succ, bind_ok, st_ok, seq_nx, seq_rt, seq_bk, seq_ct, of_some, ofS_some, ofB_some, bi_int, bi_lenT, bi_lenL, bi_lenR, bi_tupL, bi_tupR, bi_lens, bi_str, bi_ints, bin_add, bin_sub, bin_mul, bin_fdiv, bin_mod, bin_adds, bin_addt, bin_pow, Int.reduceLT, Int.reduceLE, Int.reduceAbs, Nat.reduceLT, Nat.reduceLeDiff, cmpRV, rdSeq, rdList, myList, ix_str, sl_str, isi_int_non, isi_int_bool, isi_int_int, isi_int_str, isi_int_tup, isi_bool_non, isi_bool_bool, isi_bool_int, isi_bool_str, isi_bool_tup, isi_str_non, isi_str_bool, isi_str_int, isi_str_str, isi_str_tup, isi_tuple_non, isi_tuple_bool, isi_tuple_int, isi_tuple_str, isi_tuple_tup, isi_list_non, isi_list_bool, isi_list_int, isi_list_str, isi_list_tup, isi_dict_non, isi_dict_bool, isi_dict_int, isi_dict_str, isi_dict_tup, isn_non, isn_bool, isn_int, isn_str, isn_tup, isb_true_non, isb_true_int, isb_true_str, isb_true_tup, isb_true_true, isb_true_false, isb_false_non, isb_false_int, isb_false_str, isb_false_tup, isb_false_true, isb_false_false, truthy, settle, bindT, bindTs, unpk, recv, isLst, isTxt, sz0, sz1, sz2, sz3, sz4, sz5, sz6, Option.map_some, if_true, if_false, Bool.false_eq_true, eqRV_int, Bool.not_true, Bool.not_false, forget, hsl, c0, e0, finR, gc_v0 (x := .tup [.tup [], .int _]) rfl]
    rfl
  | cons x0 xs0 =>
    obtain ⟨c1, r1, hc1, hc41⟩ := hh x0 List.mem_cons_self
    have hz0 : ∃ R0, tl z = A ++ c1 :: R0 := by
      have : ∃ R0, joinL [32] (pTL (x0 :: xs0)) ++ 41 :: R = c1 :: R0 := by
        cases xs0 with
        | nil => exact ⟨r1 ++ 41 :: R, by show pT x0 ++ 41 :: R = _; rw [hc1]; rfl⟩
        | cons y ys => exact ⟨_, by show (pT x0 ++ ([32] ++ joinL [32] (pTL (y :: ys)))) ++ 41 :: R = c1 :: _; rw [hc1]; rfl⟩
      obtain ⟨R0, e⟩ := this
      exact ⟨R0, by rw [hz, e]⟩
    obtain ⟨R0, hz0⟩ := hz0
    have c0 := cut_hit hz0
    have e0 : decide ((⟨#[c1]⟩ : Str) = (")" : Str)) = false := by rw [sgd (d := 41) rfl]; exact decide_eq_false hc41
    have L := while_eval (P := ⟨evalFn Pr gl fuel k, gl, fuel⟩) (c := wt_tuple_at_1) (b := bd_tuple_at_2) (env := [some (.str z), some (.int A.length), some (.int wi), some (.ref S.length), none, none]) (S := S ++ [.lst []])
      (I := fun n env S' => ∃ (A1 : List Nat) (done rest : List PV) (x : PV) (a b : Option PV), env = [some (.str z), some (.int A1.length), some (.int wi), some (.ref S.length), a, b] ∧ S' = S ++ [.lst done] ∧ x0 :: xs0 = done ++ x :: rest ∧ tl z = A1 ++ (joinL [32] (pTL (x :: rest)) ++ 41 :: R) ∧ n = rest.length)
      (Post := fun r => ∃ G, r = .rt (.v (.tup [.tup (x0 :: xs0), .int ((A.length + (joinL [32] (pTL (x0 :: xs0))).length + 1 : Nat) : Int)])) (S ++ G)) ?_ xs0.length (show xs0.length < fuel by simp at hf; omega) ⟨A, [], xs0, x0, none, none, rfl, rfl, rfl, hz, rfl⟩
    · rw [← ws_tuple_at_3] at L
      obtain ⟨G, L⟩ := L
      simp only [fd_tuple_at, decide_true, decide_false, enter, List.map_cons, List.map_nil, List.length_cons, List.length_nil, List.cons_append, List.nil_append, Nat.reduceAdd, Nat.reduceSub, List.replicate, evalB, evalS, evalE, evalT, evalA, evalR, evalO, evalI, evalC, List.getElem?_cons_zero, List.getElem?_cons_succ, List.set_cons_zero, List.set_cons_succ, bind_ok, st_ok, seq_nx, seq_rt, seq_bk, seq_ct, of_some, ofS_some, ofB_some, bi_int, bi_lenT, bi_lenL, bi_lenR, bi_tupL, bi_tupR, bi_lens, bi_str, bi_ints, bin_add, bin_sub, bin_mul, bin_fdiv, bin_mod, bin_adds, bin_addt, bin_pow, Int.reduceLT, Int.reduceLE, Int.reduceAbs, Nat.reduceLT, Nat.reduceLeDiff, cmpRV, rdSeq, rdList, myList, ix_str, sl_str, isi_int_non, isi_int_bool, isi_int_int, isi_int_str, isi_int_tup, isi_bool_non, isi_bool_bool, isi_bool_int, isi_bool_str, isi_bool_tup, isi_str_non, isi_str_bool, isi_str_int, isi_str_str, isi_str_tup, isi_tuple_non, isi_tuple_bool, isi_tuple_int, isi_tuple_str, isi_tuple_tup, isi_list_non, isi_list_bool, isi_list_int, isi_list_str, isi_list_tup, isi_dict_non, isi_dict_bool, isi_dict_int, isi_dict_str, isi_dict_tup, isn_non, isn_bool, isn_int, isn_str, isn_tup, isb_true_non, isb_true_int, isb_true_str, isb_true_tup, isb_true_true, isb_true_false, isb_false_non, isb_false_int, isb_false_str, isb_false_tup, isb_false_true, isb_false_false, truthy, settle, bindT, bindTs, unpk, recv, isLst, isTxt, sz0, sz1, sz2, sz3, sz4, sz5, sz6, Option.map_some, if_true, if_false, Bool.false_eq_true, eqRV_int, Bool.not_true, Bool.not_false, forget, hsl, c0, e0, L, finR, gc_v un]
    · rintro n env S' ⟨A1, done, rest, x, a, b, rfl, rfl, h1, h2, rfl⟩
      have hxm : x ∈ x0 :: xs0 := by rw [h1]; simp
      have ld : done.length < 200000 := by
        have := congrArg List.length h1
        simp at this hx
        omega
      have app : ∀ y, meRV .append (.v (.ref S.length)) [.v y] (S ++ [MO.lst done]) = some (.v .non, S ++ [.lst (done ++ [y])]) := fun y => by
        rw [me_app get_new (by rw [szl]; omega), set_new]
      have gg : ∀ xs, (S ++ [MO.lst xs])[S.length]? = some (.lst xs) := fun xs => get_new
      refine .inr ⟨_, rfl, ?_⟩
      cases rest with
      | nil =>
        have h2 : tl z = A1 ++ (pT x ++ 41 :: R) := h2
        have v := hv x hxm A1 (41 :: R) (S ++ [MO.lst done]) h2 (nodig_cons (.inl (by decide)))
        have h3 : tl z = (A1 ++ pT x) ++ 41 :: R := by rw [h2]; simp
        have c2 := cut_hit h3
        have l3 : (A1 ++ pT x).length = A1.length + (pT x).length := by simp
        rw [l3] at c2
        have e2 : decide ((⟨#[41]⟩ : Str) = (")" : Str)) = true := by rw [sgd (d := 41) rfl]; exact decide_eq_true rfl
        have hend : (A1.length + (pT x).length) + 1 = A.length + (joinL [32] (pTL (x0 :: xs0))).length + 1 := by
          have q5 := congrArg List.length hz
          have q6 := congrArg List.length h2
          simp only [List.length_append, List.length_cons] at q5 q6
          omega
        simp only [bd_tuple_at_2, decide_true, decide_false, enter, List.map_cons, List.map_nil, List.length_cons, List.length_nil, List.cons_append, List.nil_append, Nat.reduceAdd, Nat.reduceSub, List.replicate, evalB, evalS, evalE, evalT, evalA, evalR, evalO, evalI, evalC, List.getElem?_cons_zero, List.getElem?_cons_succ, List.set_cons_zero, List.set_cons_succ, bind_ok, st_ok, seq_nx, seq_rt, seq_bk, seq_ct, of_some, ofS_some, ofB_some, bi_int, bi_lenT, bi_lenL, bi_lenR, bi_tupL, bi_tupR, bi_lens, bi_str, bi_ints, bin_add, bin_sub, bin_mul, bin_fdiv, bin_mod, bin_adds, bin_addt, bin_pow, Int.reduceLT, Int.reduceLE, Int.reduceAbs, Nat.reduceLT, Nat.reduceLeDiff, cmpRV, rdSeq, rdList, myList, ix_str, sl_str, isi_int_non, isi_int_bool, isi_int_int, isi_int_str, isi_int_tup, isi_bool_non, isi_bool_bool, isi_bool_int, isi_bool_str, isi_bool_tup, isi_str_non, isi_str_bool, isi_str_int, isi_str_str, isi_str_tup, isi_tuple_non, isi_tuple_bool, isi_tuple_int, isi_tuple_str, isi_tuple_tup, isi_list_non, isi_list_bool, isi_list_int, isi_list_str, isi_list_tup, isi_dict_non, isi_dict_bool, isi_dict_int, isi_dict_str, isi_dict_tup, isn_non, isn_bool, isn_int, isn_str, isn_tup, isb_true_non, isb_true_int, isb_true_str, isb_true_tup, isb_true_true, isb_true_false, isb_false_non, isb_false_int, isb_false_str, isb_false_tup, isb_false_true, isb_false_false, truthy, settle, bindT, bindTs, unpk, recv, isLst, isTxt, sz0, sz1, sz2, sz3, sz4, sz5, sz6, Option.map_some, if_true, if_false, Bool.false_eq_true, eqRV_int, Bool.not_true, Bool.not_false, forget, v, app, gg, hsl, c2, e2]
        exact ⟨_, by rw [← hend, h1]; rfl⟩
      | cons y ys =>
        have h2 : tl z = A1 ++ (pT x ++ 32 :: (joinL [32] (pTL (y :: ys)) ++ 41 :: R)) := by
          rw [h2]
          show A1 ++ ((pT x ++ ([32] ++ joinL [32] (pTL (y :: ys)))) ++ 41 :: R) = _
          simp
        have v := hv x hxm A1 _ (S ++ [MO.lst done]) h2 (nodig_cons (.inl (by decide)))
        have h3 : tl z = (A1 ++ pT x) ++ 32 :: (joinL [32] (pTL (y :: ys)) ++ 41 :: R) := by rw [h2]; simp
        have c2 := cut_hit h3
        have l3 : (A1 ++ pT x).length = A1.length + (pT x).length := by simp
        rw [l3] at c2
        have e2 : decide ((⟨#[32]⟩ : Str) = (")" : Str)) = false := by rw [sgd (d := 41) rfl]; exact decide_eq_false (by decide)
        have e3 : decide ((⟨#[32]⟩ : Str) = (" " : Str)) = true := by rw [sgd (d := 32) rfl]; exact decide_eq_true rfl
        simp only [bd_tuple_at_2, decide_true, decide_false, enter, List.map_cons, List.map_nil, List.length_cons, List.length_nil, List.cons_append, List.nil_append, Nat.reduceAdd, Nat.reduceSub, List.replicate, evalB, evalS, evalE, evalT, evalA, evalR, evalO, evalI, evalC, List.getElem?_cons_zero, List.getElem?_cons_succ, List.set_cons_zero, List.set_cons_succ, bind_ok, st_ok, seq_nx, seq_rt, seq_bk, seq_ct, of_some, ofS_some, ofB_some, bi_int, bi_lenT, bi_lenL, bi_lenR, bi_tupL, bi_tupR, bi_lens, bi_str, bi_ints, bin_add, bin_sub, bin_mul, bin_fdiv, bin_mod, bin_adds, bin_addt, bin_pow, Int.reduceLT, Int.reduceLE, Int.reduceAbs, Nat.reduceLT, Nat.reduceLeDiff, cmpRV, rdSeq, rdList, myList, ix_str, sl_str, isi_int_non, isi_int_bool, isi_int_int, isi_int_str, isi_int_tup, isi_bool_non, isi_bool_bool, isi_bool_int, isi_bool_str, isi_bool_tup, isi_str_non, isi_str_bool, isi_str_int, isi_str_str, isi_str_tup, isi_tuple_non, isi_tuple_bool, isi_tuple_int, isi_tuple_str, isi_tuple_tup, isi_list_non, isi_list_bool, isi_list_int, isi_list_str, isi_list_tup, isi_dict_non, isi_dict_bool, isi_dict_int, isi_dict_str, isi_dict_tup, isn_non, isn_bool, isn_int, isn_str, isn_tup, isb_true_non, isb_true_int, isb_true_str, isb_true_tup, isb_true_true, isb_true_false, isb_false_non, isb_false_int, isb_false_str, isb_false_tup, isb_false_true, isb_false_false, truthy, settle, bindT, bindTs, unpk, recv, isLst, isTxt, sz0, sz1, sz2, sz3, sz4, sz5, sz6, Option.map_some, if_true, if_false, Bool.false_eq_true, eqRV_int, Bool.not_true, Bool.not_false, forget, v, app, gg, hsl, c2, e2, e3, augOk]
        refine ⟨ys.length, by simp, A1 ++ pT x ++ [32], done ++ [x], ys, y, some (.str ⟨#[32]⟩), some x, ?_, rfl, by rw [h1]; simp, by rw [h3]; simp, rfl⟩
        have : (A1 ++ pT x ++ [32]).length = A1.length + (pT x).length + 1 := by simp; omega
        rw [this]
        rfl
theorem heads : ∀ {v : PV}, plain v = true → ∃ c r, pT v = c :: r ∧ c ≠ 41
  | .non, _ => ⟨_, _, rfl, by decide⟩
  | .bool true, _ => ⟨_, _, rfl, by decide⟩
  | .bool false, _ => ⟨_, _, rfl, by decide⟩
  | .int (.ofNat n), _ => by
    show ∃ c r, numL n = c :: r ∧ c ≠ 41
    have hd := numL_digits n
    cases e : numL n with
    | nil => exact absurd e (numL_ne n)
    | cons c r =>
      have := hd c (by rw [e]; exact List.mem_cons_self)
      exact ⟨c, r, rfl, by omega⟩
  | .int (.negSucc n), _ => ⟨45, _, rfl, by decide⟩
  | .str z, _ => ⟨34, _, rfl, by decide⟩
  | .tup xs, _ => ⟨40, _, rfl, by decide⟩
theorem value_at_ok (h564 : Pr 564 = some fd_value_at) (h553 : Pr 553 = some fd_tuple_at) (h542 : Pr 542 = some fd_text_at) (h325 : Pr 325 = some fd_integer_at) (h7 : gl 7 = some (.str "0123456789")) (h14 : gl 14 = some (.int 40)) (h20 : gl 20 = some (.int 2000)) (hf : 100000 ≤ fuel) {z : Str} (hl : z.length < 100000) :
    ∀ (d : Nat) (v : PV) (k : Nat) (A R : List Nat) (wi : Nat) (S : Store), nest v ≤ d → 2 * d + 2 ≤ k → plain v = true → tl z = A ++ (pT v ++ R) → nodig R → wi + nest v ≤ 40 →
      evalFn Pr gl fuel k 564 [.str z, .int ((A.length : Nat) : Int), .int (wi : Int)] S = .ok (.v (.tup [v, .int ((A.length + (pT v).length : Nat) : Int)])) S := by
  intro d
  induction d using Nat.strongRecOn with
  | _ d ih =>
    intro v k A R wi S hn hk hp hz hR hw
    obtain ⟨k, rfl⟩ : ∃ j, k = j + 2 := ⟨k - 2, by omega⟩
    rw [call_eq h564 rfl]
    have hs : z.length ≤ sizeLine := by rw [szl]; omega
    have hsl : ∀ i j S, slRV (.v (.str z)) i j S = some (.v (.str (cutS z i j))) := fun i j S => sl_str hs
    have un : PV.under S.length (.tup [v, .int ((A.length + (pT v).length : Nat) : Int)]) = true := by
      show (v.under S.length && true) = true
      rw [plain_under hp]; rfl
    suffices g : evalB ⟨evalFn Pr gl fuel (k + 1), gl, fuel⟩ fd_value_at.body (enter fd_value_at [.str z, .int ((A.length : Nat) : Int), .int (wi : Int)]) S = .rt (.v (.tup [v, .int ((A.length + (pT v).length : Nat) : Int)])) S by
      rw [g]
      simp only [finR, gc_v0 un]
    have hlz : z.length = (tl z).length := len_tl z
    obtain ⟨c, r, ec, _⟩ := heads hp
    have hz1 : tl z = A ++ c :: (r ++ R) := by rw [hz, ec]; rfl
    have c0 := cut_hit hz1
    have eN : decide ((⟨#[c]⟩ : Str) = ("N" : Str)) = decide (c = 78) := sgd rfl
    have eT : decide ((⟨#[c]⟩ : Str) = ("T" : Str)) = decide (c = 84) := sgd rfl
    have eF : decide ((⟨#[c]⟩ : Str) = ("F" : Str)) = decide (c = 70) := sgd rfl
    have eQ : decide ((⟨#[c]⟩ : Str) = ("\"" : Str)) = decide (c = 34) := sgd rfl
    have eP : decide ((⟨#[c]⟩ : Str) = ("(" : Str)) = decide (c = 40) := sgd rfl
    cases v with
    | non =>
      obtain rfl : 78 = c := (List.cons.inj (show [78] = c :: r from ec)).1
      simp only [fd_value_at, decide_true, decide_false, enter, List.map_cons, List.map_nil, List.length_cons, List.length_nil, List.cons_append, List.nil_append, Nat.reduceAdd, Nat.reduceSub, List.replicate, evalB, evalS, evalE, evalT, evalA, evalR, evalO, evalI, evalC, List.getElem?_cons_zero, List.getElem?_cons_succ, List.set_cons_zero, List.set_cons_succ, bind_ok, st_ok, seq_nx, seq_rt, seq_bk, seq_ct, of_some, ofS_some, ofB_some, bi_int, bi_lenT, bi_lenL, bi_lenR, bi_tupL, bi_tupR, bi_lens, bi_str, bi_ints, bin_add, bin_sub, bin_mul, bin_fdiv, bin_mod, bin_adds, bin_addt, bin_pow, Int.reduceLT, Int.reduceLE, Int.reduceAbs, Nat.reduceLT, Nat.reduceLeDiff, cmpRV, rdSeq, rdList, myList, ix_str, sl_str, isi_int_non, isi_int_bool, isi_int_int, isi_int_str, isi_int_tup, isi_bool_non, isi_bool_bool, isi_bool_int, isi_bool_str, isi_bool_tup, isi_str_non, isi_str_bool, isi_str_int, isi_str_str, isi_str_tup, isi_tuple_non, isi_tuple_bool, isi_tuple_int, isi_tuple_str, isi_tuple_tup, isi_list_non, isi_list_bool, isi_list_int, isi_list_str, isi_list_tup, isi_dict_non, isi_dict_bool, isi_dict_int, isi_dict_str, isi_dict_tup, isn_non, isn_bool, isn_int, isn_str, isn_tup, isb_true_non, isb_true_int, isb_true_str, isb_true_tup, isb_true_true, isb_true_false, isb_false_non, isb_false_int, isb_false_str, isb_false_tup, isb_false_true, isb_false_false, truthy, settle, bindT, bindTs, unpk, recv, isLst, isTxt, sz0, sz1, sz2, sz3, sz4, sz5, sz6, Option.map_some, if_true, if_false, Bool.false_eq_true, eqRV_int, Bool.not_true, Bool.not_false, forget, hsl, c0, eN]
      rfl
    | bool b =>
      cases b with
      | true =>
        obtain rfl : 84 = c := (List.cons.inj (show [84] = c :: r from ec)).1
        have n1 : decide (84 = 78) = false := rfl
        simp only [fd_value_at, decide_true, decide_false, enter, List.map_cons, List.map_nil, List.length_cons, List.length_nil, List.cons_append, List.nil_append, Nat.reduceAdd, Nat.reduceSub, List.replicate, evalB, evalS, evalE, evalT, evalA, evalR, evalO, evalI, evalC, List.getElem?_cons_zero, List.getElem?_cons_succ, List.set_cons_zero, List.set_cons_succ, bind_ok, st_ok, seq_nx, seq_rt, seq_bk, seq_ct, of_some, ofS_some, ofB_some, bi_int, bi_lenT, bi_lenL, bi_lenR, bi_tupL, bi_tupR, bi_lens, bi_str, bi_ints, bin_add, bin_sub, bin_mul, bin_fdiv, bin_mod, bin_adds, bin_addt, bin_pow, Int.reduceLT, Int.reduceLE, Int.reduceAbs, Nat.reduceLT, Nat.reduceLeDiff, cmpRV, rdSeq, rdList, myList, ix_str, sl_str, isi_int_non, isi_int_bool, isi_int_int, isi_int_str, isi_int_tup, isi_bool_non, isi_bool_bool, isi_bool_int, isi_bool_str, isi_bool_tup, isi_str_non, isi_str_bool, isi_str_int, isi_str_str, isi_str_tup, isi_tuple_non, isi_tuple_bool, isi_tuple_int, isi_tuple_str, isi_tuple_tup, isi_list_non, isi_list_bool, isi_list_int, isi_list_str, isi_list_tup, isi_dict_non, isi_dict_bool, isi_dict_int, isi_dict_str, isi_dict_tup, isn_non, isn_bool, isn_int, isn_str, isn_tup, isb_true_non, isb_true_int, isb_true_str, isb_true_tup, isb_true_true, isb_true_false, isb_false_non, isb_false_int, isb_false_str, isb_false_tup, isb_false_true, isb_false_false, truthy, settle, bindT, bindTs, unpk, recv, isLst, isTxt, sz0, sz1, sz2, sz3, sz4, sz5, sz6, Option.map_some, if_true, if_false, Bool.false_eq_true, eqRV_int, Bool.not_true, Bool.not_false, forget, hsl, c0, eN, eT, n1]
        rfl
      | false =>
        obtain rfl : 70 = c := (List.cons.inj (show [70] = c :: r from ec)).1
        have n1 : decide (70 = 78) = false := rfl
        have n2 : decide (70 = 84) = false := rfl
        simp only [fd_value_at, decide_true, decide_false, enter, List.map_cons, List.map_nil, List.length_cons, List.length_nil, List.cons_append, List.nil_append, Nat.reduceAdd, Nat.reduceSub, List.replicate, evalB, evalS, evalE, evalT, evalA, evalR, evalO, evalI, evalC, List.getElem?_cons_zero, List.getElem?_cons_succ, List.set_cons_zero, List.set_cons_succ, bind_ok, st_ok, seq_nx, seq_rt, seq_bk, seq_ct, of_some, ofS_some, ofB_some, bi_int, bi_lenT, bi_lenL, bi_lenR, bi_tupL, bi_tupR, bi_lens, bi_str, bi_ints, bin_add, bin_sub, bin_mul, bin_fdiv, bin_mod, bin_adds, bin_addt, bin_pow, Int.reduceLT, Int.reduceLE, Int.reduceAbs, Nat.reduceLT, Nat.reduceLeDiff, cmpRV, rdSeq, rdList, myList, ix_str, sl_str, isi_int_non, isi_int_bool, isi_int_int, isi_int_str, isi_int_tup, isi_bool_non, isi_bool_bool, isi_bool_int, isi_bool_str, isi_bool_tup, isi_str_non, isi_str_bool, isi_str_int, isi_str_str, isi_str_tup, isi_tuple_non, isi_tuple_bool, isi_tuple_int, isi_tuple_str, isi_tuple_tup, isi_list_non, isi_list_bool, isi_list_int, isi_list_str, isi_list_tup, isi_dict_non, isi_dict_bool, isi_dict_int, isi_dict_str, isi_dict_tup, isn_non, isn_bool, isn_int, isn_str, isn_tup, isb_true_non, isb_true_int, isb_true_str, isb_true_tup, isb_true_true, isb_true_false, isb_false_non, isb_false_int, isb_false_str, isb_false_tup, isb_false_true, isb_false_false, truthy, settle, bindT, bindTs, unpk, recv, isLst, isTxt, sz0, sz1, sz2, sz3, sz4, sz5, sz6, Option.map_some, if_true, if_false, Bool.false_eq_true, eqRV_int, Bool.not_true, Bool.not_false, forget, hsl, c0, eN, eT, eF, n1, n2]
        rfl
    | ref _ => cases hp
    | int i =>
      have hc : c = 45 ∨ (48 ≤ c ∧ c ≤ 57) := by
        cases i with
        | ofNat n => exact .inr (numL_digits n c (by rw [show numL n = c :: r from ec]; exact List.mem_cons_self))
        | negSucc n => exact .inl (List.cons.inj (show 45 :: numL (n + 1) = c :: r from ec)).1.symm
      have n1 : decide (c = 78) = false := decide_eq_false (by omega)
      have n2 : decide (c = 84) = false := decide_eq_false (by omega)
      have n3 : decide (c = 70) = false := decide_eq_false (by omega)
      have n4 : decide (c = 34) = false := decide_eq_false (by omega)
      have n5 : decide (c = 40) = false := decide_eq_false (by omega)
      have t := integer_ok (gl := gl) (fuel := fuel) (S := S) (k := k) h325 h7 h20 (by omega) (A := A) (R := R) (i := i) hz (by omega) (of_decide_eq_true hp) hR
      simp only [fd_value_at, decide_true, decide_false, enter, List.map_cons, List.map_nil, List.length_cons, List.length_nil, List.cons_append, List.nil_append, Nat.reduceAdd, Nat.reduceSub, List.replicate, evalB, evalS, evalE, evalT, evalA, evalR, evalO, evalI, evalC, List.getElem?_cons_zero, List.getElem?_cons_succ, List.set_cons_zero, List.set_cons_succ, bind_ok, st_ok, seq_nx, seq_rt, seq_bk, seq_ct, of_some, ofS_some, ofB_some, bi_int, bi_lenT, bi_lenL, bi_lenR, bi_tupL, bi_tupR, bi_lens, bi_str, bi_ints, bin_add, bin_sub, bin_mul, bin_fdiv, bin_mod, bin_adds, bin_addt, bin_pow, Int.reduceLT, Int.reduceLE, Int.reduceAbs, Nat.reduceLT, Nat.reduceLeDiff, cmpRV, rdSeq, rdList, myList, ix_str, sl_str, isi_int_non, isi_int_bool, isi_int_int, isi_int_str, isi_int_tup, isi_bool_non, isi_bool_bool, isi_bool_int, isi_bool_str, isi_bool_tup, isi_str_non, isi_str_bool, isi_str_int, isi_str_str, isi_str_tup, isi_tuple_non, isi_tuple_bool, isi_tuple_int, isi_tuple_str, isi_tuple_tup, isi_list_non, isi_list_bool, isi_list_int, isi_list_str, isi_list_tup, isi_dict_non, isi_dict_bool, isi_dict_int, isi_dict_str, isi_dict_tup, isn_non, isn_bool, isn_int, isn_str, isn_tup, isb_true_non, isb_true_int, isb_true_str, isb_true_tup, isb_true_true, isb_true_false, isb_false_non, isb_false_int, isb_false_str, isb_false_tup, isb_false_true, isb_false_false, truthy, settle, bindT, bindTs, unpk, recv, isLst, isTxt, sz0, sz1, sz2, sz3, sz4, sz5, sz6, Option.map_some, if_true, if_false, Bool.false_eq_true, eqRV_int, Bool.not_true, Bool.not_false, forget, hsl, c0, eN, eT, eF, eQ, eP, n1, n2, n3, n4, n5, t]
      rfl
    | str w =>
      obtain ⟨e1, e2⟩ := List.cons.inj (show 34 :: (escL (tl w) ++ [34]) = c :: r from ec)
      subst e1
      have hz2 : tl z = (A ++ [34]) ++ (escL (tl w) ++ 34 :: R) := by
        rw [hz]
        show A ++ (34 :: (escL (tl w) ++ [34]) ++ R) = _
        simp
      have la : (A ++ [34]).length = A.length + 1 := by simp
      have wl : w.length < fuel := by
        have q1 := str_le w
        have q2 := congrArg List.length hz2
        simp only [List.length_append, List.length_cons] at q2
        omega
      have t := text_ok (gl := gl) (fuel := fuel) (S := S) (k := k) h542 (w := w) wl hz2 (by omega)
      rw [la] at t
      have n1 : decide (34 = 78) = false := rfl
      have n2 : decide (34 = 84) = false := rfl
      have n3 : decide (34 = 70) = false := rfl
      have t' : evalFn Pr gl fuel (k + 1) 542 [.str z, .int ((A.length : Int) + 1)] S = .ok (.v (.tup [.str w, .int ((A.length + (pT (.str w)).length : Nat) : Int)])) S := by
        have : A.length + 1 + (escL (tl w)).length + 1 = A.length + (pT (.str w)).length := by
          show _ = A.length + (34 :: (escL (tl w) ++ [34])).length
          simp
          omega
        rw [this] at t
        exact t
      simp only [fd_value_at, decide_true, decide_false, enter, List.map_cons, List.map_nil, List.length_cons, List.length_nil, List.cons_append, List.nil_append, Nat.reduceAdd, Nat.reduceSub, List.replicate, evalB, evalS, evalE, evalT, evalA, evalR, evalO, evalI, evalC, List.getElem?_cons_zero, List.getElem?_cons_succ, List.set_cons_zero, List.set_cons_succ, bind_ok, st_ok, seq_nx, seq_rt, seq_bk, seq_ct, of_some, ofS_some, ofB_some, bi_int, bi_lenT, bi_lenL, bi_lenR, bi_tupL, bi_tupR, bi_lens, bi_str, bi_ints, bin_add, bin_sub, bin_mul, bin_fdiv, bin_mod, bin_adds, bin_addt, bin_pow, Int.reduceLT, Int.reduceLE, Int.reduceAbs, Nat.reduceLT, Nat.reduceLeDiff, cmpRV, rdSeq, rdList, myList, ix_str, sl_str, isi_int_non, isi_int_bool, isi_int_int, isi_int_str, isi_int_tup, isi_bool_non, isi_bool_bool, isi_bool_int, isi_bool_str, isi_bool_tup, isi_str_non, isi_str_bool, isi_str_int, isi_str_str, isi_str_tup, isi_tuple_non, isi_tuple_bool, isi_tuple_int, isi_tuple_str, isi_tuple_tup, isi_list_non, isi_list_bool, isi_list_int, isi_list_str, isi_list_tup, isi_dict_non, isi_dict_bool, isi_dict_int, isi_dict_str, isi_dict_tup, isn_non, isn_bool, isn_int, isn_str, isn_tup, isb_true_non, isb_true_int, isb_true_str, isb_true_tup, isb_true_true, isb_true_false, isb_false_non, isb_false_int, isb_false_str, isb_false_tup, isb_false_true, isb_false_false, truthy, settle, bindT, bindTs, unpk, recv, isLst, isTxt, sz0, sz1, sz2, sz3, sz4, sz5, sz6, Option.map_some, if_true, if_false, Bool.false_eq_true, eqRV_int, Bool.not_true, Bool.not_false, forget, hsl, c0, eN, eT, eF, eQ, n1, n2, n3, t']
    | tup xs =>
      obtain ⟨e1, e2⟩ := List.cons.inj (show 40 :: (joinL [32] (pTL xs) ++ [41]) = c :: r from ec)
      subst e1
      have hz2 : tl z = (A ++ [40]) ++ (joinL [32] (pTL xs) ++ 41 :: R) := by
        rw [hz]
        show A ++ (40 :: (joinL [32] (pTL xs) ++ [41]) ++ R) = _
        simp
      have la : (A ++ [40]).length = A.length + 1 := by simp
      obtain ⟨s1, _, _⟩ := tup_sizes hp
      have lz : (pT (.tup xs)).length ≤ z.length := by
        rw [hlz, hz, List.length_append, List.length_append]; omega
      have hn : nestL xs + 1 ≤ d := hn
      have hw : wi + (nestL xs + 1) ≤ 40 := hw
      have t := tuple_ok (gl := gl) (fuel := fuel) (S := S) (k := k) h553 (z := z) (A := A ++ [40]) (R := R) (xs := xs) (wi := ((wi + 1 : Nat) : Int)) (by omega) hp hz2 (by omega) (by omega) (fun x hx => heads (plainL_all.mp hp x hx)) (fun x hx A R S e1 e2 => by
        have nx := nestL_all.mp (Nat.le_refl (nestL xs)) x hx
        exact ih (d - 1) (by omega) x k A R (wi + 1) S (by omega) (by omega) (plainL_all.mp hp x hx) e1 e2 (by omega))
      rw [la] at t
      have n1 : decide (40 = 78) = false := rfl
      have n2 : decide (40 = 84) = false := rfl
      have n3 : decide (40 = 70) = false := rfl
      have n4 : decide (40 = 34) = false := rfl
      have n5 : decide ((wi : Int) = 40) = false := decide_eq_false (by omega)
      have t' : evalFn Pr gl fuel (k + 1) 553 [.str z, .int ((A.length : Int) + 1), .int ((wi : Int) + 1)] S = .ok (.v (.tup [.tup xs, .int ((A.length + (pT (.tup xs)).length : Nat) : Int)])) S := by
        have : A.length + 1 + (joinL [32] (pTL xs)).length + 1 = A.length + (pT (.tup xs)).length := by
          show _ = A.length + (40 :: (joinL [32] (pTL xs) ++ [41])).length
          simp
          omega
        rw [this] at t
        exact t
      simp only [fd_value_at, decide_true, decide_false, enter, List.map_cons, List.map_nil, List.length_cons, List.length_nil, List.cons_append, List.nil_append, Nat.reduceAdd, Nat.reduceSub, List.replicate, evalB, evalS, evalE, evalT, evalA, evalR, evalO, evalI, evalC, List.getElem?_cons_zero, List.getElem?_cons_succ, List.set_cons_zero, List.set_cons_succ, bind_ok, st_ok, seq_nx, seq_rt, seq_bk, seq_ct, of_some, ofS_some, ofB_some, bi_int, bi_lenT, bi_lenL, bi_lenR, bi_tupL, bi_tupR, bi_lens, bi_str, bi_ints, bin_add, bin_sub, bin_mul, bin_fdiv, bin_mod, bin_adds, bin_addt, bin_pow, Int.reduceLT, Int.reduceLE, Int.reduceAbs, Nat.reduceLT, Nat.reduceLeDiff, cmpRV, rdSeq, rdList, myList, ix_str, sl_str, isi_int_non, isi_int_bool, isi_int_int, isi_int_str, isi_int_tup, isi_bool_non, isi_bool_bool, isi_bool_int, isi_bool_str, isi_bool_tup, isi_str_non, isi_str_bool, isi_str_int, isi_str_str, isi_str_tup, isi_tuple_non, isi_tuple_bool, isi_tuple_int, isi_tuple_str, isi_tuple_tup, isi_list_non, isi_list_bool, isi_list_int, isi_list_str, isi_list_tup, isi_dict_non, isi_dict_bool, isi_dict_int, isi_dict_str, isi_dict_tup, isn_non, isn_bool, isn_int, isn_str, isn_tup, isb_true_non, isb_true_int, isb_true_str, isb_true_tup, isb_true_true, isb_true_false, isb_false_non, isb_false_int, isb_false_str, isb_false_tup, isb_false_true, isb_false_false, truthy, settle, bindT, bindTs, unpk, recv, isLst, isTxt, sz0, sz1, sz2, sz3, sz4, sz5, sz6, Option.map_some, if_true, if_false, Bool.false_eq_true, eqRV_int, Bool.not_true, Bool.not_false, forget, hsl, c0, eN, eT, eF, eQ, eP, n1, n2, n3, n4, h14, n5, t']
end
end Deep

set_option Elab.async false
set_option linter.all false
set_option maxRecDepth 100000
set_option maxHeartbeats 1000000
namespace Deep
open PySem PySem.Spec PyProof.Rows L2 PySem.StrLaws TL
section
variable {Pr : Prog} {gl : Nat → Option PV} {fuel : Nat} {S : Store}
theorem read_ok (h464 : Pr 464 = some fd_read_plain) (h564 : Pr 564 = some fd_value_at) (h553 : Pr 553 = some fd_tuple_at) (h542 : Pr 542 = some fd_text_at) (h325 : Pr 325 = some fd_integer_at) (h7 : gl 7 = some (.str "0123456789")) (h14 : gl 14 = some (.int 40)) (h20 : gl 20 = some (.int 2000)) (hf : 100000 ≤ fuel)
    {v : PV} {k : Nat} (hk : 90 ≤ k) (hn : nest v ≤ 40) (hp : plain v = true) (hl : (pT v).length < 100000) : evalFn Pr gl fuel (k + 1) 464 [.str (T v)] S = .ok (.v v) S := by
  rw [call_eq h464 rfl]
  have t := value_at_ok (gl := gl) (fuel := fuel) h564 h553 h542 h325 h7 h14 h20 hf (z := T v) (by rw [len_T]; exact hl) (nest v) v k [] [] 0 S (Nat.le_refl _) (by omega) hp (by simp [T, tl_mkT]) (fun c r e => by cases e) (by omega)
  have t' : evalFn Pr gl fuel k 564 [.str (T v), .int 0, .int 0] S = .ok (.v (.tup [v, .int ((pT v).length : Nat)])) S := by
    simp only [List.length_nil, Nat.zero_add] at t
    exact t
  have hs : (T v).length ≤ sizeLine := by rw [len_T, szl]; omega
  have bl : ∀ S, biRV .len [.v (.str (T v))] S = some (.v (.int ((pT v).length : Nat))) := fun S => by rw [bi_lens hs, len_T]
  have n1 : decide (((pT v).length : Int) < ((pT v).length : Int)) = false := decide_eq_false (by omega)
  have g : evalB ⟨evalFn Pr gl fuel k, gl, fuel⟩ fd_read_plain.body (enter fd_read_plain [.str (T v)]) S = .rt (.v v) S := by
    simp only [fd_read_plain, decide_true, decide_false, enter, List.map_cons, List.map_nil, List.length_cons, List.length_nil, List.cons_append, List.nil_append, Nat.reduceAdd, Nat.reduceSub, List.replicate, evalB, evalS, evalE, evalT, evalA, evalR, evalO, evalI, evalC, List.getElem?_cons_zero, List.getElem?_cons_succ, List.set_cons_zero, List.set_cons_succ, bind_ok, st_ok, seq_nx, seq_rt, seq_bk, seq_ct, of_some, ofS_some, ofB_some, bi_int, bi_lenT, bi_lenL, bi_lenR, bi_tupL, bi_tupR, bi_lens, bi_str, bi_ints, bin_add, bin_sub, bin_mul, bin_fdiv, bin_mod, bin_adds, bin_addt, bin_pow, Int.reduceLT, Int.reduceLE, Int.reduceAbs, Nat.reduceLT, Nat.reduceLeDiff, cmpRV, rdSeq, rdList, myList, ix_str, sl_str, isi_int_non, isi_int_bool, isi_int_int, isi_int_str, isi_int_tup, isi_bool_non, isi_bool_bool, isi_bool_int, isi_bool_str, isi_bool_tup, isi_str_non, isi_str_bool, isi_str_int, isi_str_str, isi_str_tup, isi_tuple_non, isi_tuple_bool, isi_tuple_int, isi_tuple_str, isi_tuple_tup, isi_list_non, isi_list_bool, isi_list_int, isi_list_str, isi_list_tup, isi_dict_non, isi_dict_bool, isi_dict_int, isi_dict_str, isi_dict_tup, isn_non, isn_bool, isn_int, isn_str, isn_tup, isb_true_non, isb_true_int, isb_true_str, isb_true_tup, isb_true_true, isb_true_false, isb_false_non, isb_false_int, isb_false_str, isb_false_tup, isb_false_true, isb_false_false, truthy, settle, bindT, bindTs, unpk, recv, isLst, isTxt, sz0, sz1, sz2, sz3, sz4, sz5, sz6, Option.map_some, if_true, if_false, Bool.false_eq_true, eqRV_int, Bool.not_true, Bool.not_false, forget, t', bl, n1]
  rw [g]
  simp only [finR, gc_v0 (plain_under hp)]
end
def lS (xs ds : List Int) : Store := [.ro (xs.map .int), .lst (ds.map .int), boxO 1 0]
theorem law_run (ns : List Int) (hl : ns.length ≤ 63) : ∃ S, evalFn (tabPr tab) (tabGl gs) 100000 150 398 [.ref 0] [.ro (ns.map .int)] = .ok (.v (.bool true)) S := by
  have p23 : tabPr tab 23 = some fd__law_cell := rfl
  have p39 : tabPr tab 39 = some fd__law_digits := rfl
  have p44 : tabPr tab 44 = some fd__law_draw := rfl
  have p194 : tabPr tab 194 = some fd__law_value := rfl
  have p123 : tabPr tab 123 = some fd__law_plain := rfl
  have p145 : tabPr tab 145 = some fd__law_same := rfl
  have p498 : tabPr tab 498 = some fd_show_plain := rfl
  have p445 : tabPr tab 445 = some fd_quoted := rfl
  have p464 : tabPr tab 464 = some fd_read_plain := rfl
  have p564 : tabPr tab 564 = some fd_value_at := rfl
  have p553 : tabPr tab 553 = some fd_tuple_at := rfl
  have p542 : tabPr tab 542 = some fd_text_at := rfl
  have p325 : tabPr tab 325 = some fd_integer_at := rfl
  have p398 : tabPr tab 398 = some fd_law := rfl
  have g7 : tabGl gs 7 = some (.str "0123456789") := rfl
  have g14 : tabGl gs 14 = some (.int 40) := rfl
  have g20 : tabGl gs 20 = some (.int 2000) := rfl
  generalize tabPr tab = Pr at *
  generalize tabGl gs = gl at *
  rw [call_eq p398 rfl]
  obtain ⟨ds, hd⟩ := digits_ok (gl := gl) (fuel := 100000) (k := 147) p39 p23 (S := [.ro (ns.map .int)]) (xs := ns) rfl
  have bd4 : bd 4 = 2830 := by decide
  have L := for_eval (P := ⟨evalFn Pr gl 100000 149, gl, 100000⟩) (t := .name 2) (it := .rng1 (.int 6)) (b := bd_law_3) (env := [some (.ref 0), some (.ref 2), none, none, none, none]) (S := lS ns ds) (S1 := lS ns ds) (xs := rangeItems 0 6) (g := none)
    rfl (I := fun _ env S' => ∃ (a : Nat) (b c d e : Option PV), env = [some (.ref 0), some (.ref 2), b, c, d, e] ∧ S' = bx (lS ns ds) 2 1 a) (Post := fun r => ∃ env S', r = .nx env S') ?_ (fun env S _ => ⟨rfl, _, _, rfl⟩) ⟨0, none, none, none, none, rfl, rfl⟩
  · obtain ⟨env, S', L⟩ := L
    rw [← fs_law_4] at L
    unfold lS boxO at L
    have L' : evalS ⟨evalFn Pr gl 100000 149, gl, 100000⟩ fs_law_4 [some (.ref 0), some (.ref 2), none, none, none, none] [.ro (ns.map .int), .lst (ds.map .int), .lst [.ref 1, .int 0]] = .nx env S' := L
    simp only [fd_law, decide_true, decide_false, enter, List.map_cons, List.map_nil, List.length_cons, List.length_nil, List.cons_append, List.nil_append, Nat.reduceAdd, Nat.reduceSub, List.replicate, evalB, evalS, evalE, evalT, evalA, evalR, evalO, evalI, evalC, List.getElem?_cons_zero, List.getElem?_cons_succ, List.set_cons_zero, List.set_cons_succ, bind_ok, st_ok, seq_nx, seq_rt, seq_bk, seq_ct, of_some, ofS_some, ofB_some, bi_int, bi_lenT, bi_lenL, bi_lenR, bi_tupL, bi_tupR, bi_lens, bi_str, bi_ints, bin_add, bin_sub, bin_mul, bin_fdiv, bin_mod, bin_adds, bin_addt, bin_pow, Int.reduceLT, Int.reduceLE, Int.reduceAbs, Nat.reduceLT, Nat.reduceLeDiff, cmpRV, rdSeq, rdList, myList, ixRV, sl_str, isi_int_non, isi_int_bool, isi_int_int, isi_int_str, isi_int_tup, isi_bool_non, isi_bool_bool, isi_bool_int, isi_bool_str, isi_bool_tup, isi_str_non, isi_str_bool, isi_str_int, isi_str_str, isi_str_tup, isi_tuple_non, isi_tuple_bool, isi_tuple_int, isi_tuple_str, isi_tuple_tup, isi_list_non, isi_list_bool, isi_list_int, isi_list_str, isi_list_tup, isi_dict_non, isi_dict_bool, isi_dict_int, isi_dict_str, isi_dict_tup, isn_non, isn_bool, isn_int, isn_str, isn_tup, isb_true_non, isb_true_int, isb_true_str, isb_true_tup, isb_true_true, isb_true_false, isb_false_non, isb_false_int, isb_false_str, isb_false_tup, isb_false_true, isb_false_false, truthy, settle, bindT, bindTs, unpk, recv, isLst, isTxt, sz0, sz1, sz2, sz3, sz4, sz5, sz6, Option.map_some, if_true, if_false, Bool.false_eq_true, eqRV_int, Bool.not_true, Bool.not_false, forget, hd, L', finR]
    have : ∀ G S', ∃ S2, gcR G (.v (.bool true)) S' = (.v (.bool true), S2) := fun G S' => by
      unfold gcR
      split
      · exact ⟨_, rfl⟩
      · exact ⟨_, rfl⟩
    obtain ⟨S2, e⟩ := this [MO.ro (ns.map .int)] S'
    rw [e]
    exact ⟨S2, rfl⟩
  · rintro x xs env S' ⟨a, b, c, d, e, rfl, rfl⟩
    refine ⟨rfl, _, _, rfl, ?_⟩
    obtain ⟨v, a1, hv, G⟩ := value_ok (gl := gl) (fuel := 100000) p44 p194 (S := lS ns ds) (n := 2) (m := 1) (ds := ds) (by show 2 < 3; decide) (by decide) rfl 4 149 a (by decide)
    replace hv : evalFn Pr gl 100000 149 194 [.ref 2, .int 4] (bx (lS ns ds) 2 1 a) = .ok (.v v) (bx (lS ns ds) 2 1 a1) := hv
    have dr := draw_bx (gl := gl) (fuel := 100000) (k := 148) p44 (S := lS ns ds) (n := 2) (m := 1) (ds := ds) (by show 2 < 3; decide) (by decide) rfl a1 4 (by decide)
    obtain ⟨c0, c1⟩ := drawV_ge (ds := ds) (at_ := a1) (many := 4) (by decide)
    obtain ⟨w, e1, e2⟩ := atI_mem (xs := [PV.int 0, .int 0, .int 0, .int 36]) c0 c1
    obtain ⟨cn, rfl, hcn⟩ : ∃ cn : Nat, w = .int cn ∧ cn ≤ 36 := by
      simp only [List.mem_cons, List.not_mem_nil, or_false] at e2
      rcases e2 with rfl | rfl | rfl | rfl
      · exact ⟨0, rfl, by decide⟩
      · exact ⟨0, rfl, by decide⟩
      · exact ⟨0, rfl, by decide⟩
      · exact ⟨36, rfl, by decide⟩
    have hr : inRange (cn : Int) = true := decide_eq_true (by omega)
    have W := for_eval (P := ⟨evalFn Pr gl 100000 149, gl, 100000⟩) (t := .name 4) (it := .rng1 (.ix (.lst (.cons (.int 0) (.cons (.int 0) (.cons (.int 0) (.cons (.int 36) .nil))))) (.call 44 (.cons (.var 1) (.cons (.int 4) .nil))))) (b := bd_law_1) (env := [some (.ref 0), some (.ref 2), some x, some v, d, e]) (S := bx (lS ns ds) 2 1 a1) (S1 := bx (lS ns ds) 2 1 (a1 + 1)) (xs := rangeItems 0 cn) (g := none)
      (by simp only [decide_true, decide_false, enter, List.map_cons, List.map_nil, List.length_cons, List.length_nil, List.cons_append, List.nil_append, Nat.reduceAdd, Nat.reduceSub, List.replicate, evalB, evalS, evalE, evalT, evalA, evalR, evalO, evalI, evalC, List.getElem?_cons_zero, List.getElem?_cons_succ, List.set_cons_zero, List.set_cons_succ, bind_ok, st_ok, seq_nx, seq_rt, seq_bk, seq_ct, of_some, ofS_some, ofB_some, bi_int, bi_lenT, bi_lenL, bi_lenR, bi_tupL, bi_tupR, bi_lens, bi_str, bi_ints, bin_add, bin_sub, bin_mul, bin_fdiv, bin_mod, bin_adds, bin_addt, bin_pow, Int.reduceLT, Int.reduceLE, Int.reduceAbs, Nat.reduceLT, Nat.reduceLeDiff, cmpRV, rdSeq, rdList, myList, ixRV, sl_str, isi_int_non, isi_int_bool, isi_int_int, isi_int_str, isi_int_tup, isi_bool_non, isi_bool_bool, isi_bool_int, isi_bool_str, isi_bool_tup, isi_str_non, isi_str_bool, isi_str_int, isi_str_str, isi_str_tup, isi_tuple_non, isi_tuple_bool, isi_tuple_int, isi_tuple_str, isi_tuple_tup, isi_list_non, isi_list_bool, isi_list_int, isi_list_str, isi_list_tup, isi_dict_non, isi_dict_bool, isi_dict_int, isi_dict_str, isi_dict_tup, isn_non, isn_bool, isn_int, isn_str, isn_tup, isb_true_non, isb_true_int, isb_true_str, isb_true_tup, isb_true_true, isb_true_false, isb_false_non, isb_false_int, isb_false_str, isb_false_tup, isb_false_true, isb_false_false, truthy, settle, bindT, bindTs, unpk, recv, isLst, isTxt, sz0, sz1, sz2, sz3, sz4, sz5, sz6, Option.map_some, if_true, if_false, Bool.false_eq_true, eqRV_int, Bool.not_true, Bool.not_false, forget, dr, e1, hr]) (I := fun ys env S' => ∃ (u : PV) (d' : Option PV), env = [some (.ref 0), some (.ref 2), some x, some u, d', e] ∧ S' = bx (lS ns ds) 2 1 (a1 + 1) ∧ plain u = true ∧ nest u + ys.length ≤ 40 ∧ (pT u).length + 2 * ys.length ≤ 3000)
      (Post := fun r => ∃ (u : PV) (d' : Option PV), r = .nx [some (.ref 0), some (.ref 2), some x, some u, d', e] (bx (lS ns ds) 2 1 (a1 + 1)) ∧ plain u = true ∧ nest u ≤ 40 ∧ (pT u).length ≤ 3000) ?_ ?_ ⟨v, d, rfl, rfl, G.pl, ?_, ?_⟩
    · obtain ⟨u, d', W, hu1, hu2, hu3⟩ := W
      rw [← fs_law_2] at W
      have tx := plain_ok (gl := gl) (fuel := 100000) (S := bx (lS ns ds) 2 1 (a1 + 1)) p123 40 u 149 hu2 (by decide) hu1 (by omega)
      have sh := show_ok (gl := gl) (fuel := 100000) (S := bx (lS ns ds) 2 1 (a1 + 1)) p498 p445 40 u 149 hu2 (by decide) hu1 (by omega)
      have rd := read_ok (gl := gl) (fuel := 100000) (S := bx (lS ns ds) 2 1 (a1 + 1)) p464 p564 p553 p542 p325 g7 g14 g20 (by decide) (v := u) (k := 148) (by decide) hu2 hu1 (by omega)
      have s1 := same_str (gl := gl) (fuel := 100000) (S := bx (lS ns ds) 2 1 (a1 + 1)) p145 (T u) 148
      have s2 := same_ok (gl := gl) (fuel := 100000) (S := bx (lS ns ds) 2 1 (a1 + 1)) p145 40 u 149 hu2 (by decide) hu1 (by omega)
      simp only [bd_law_3, decide_true, decide_false, enter, List.map_cons, List.map_nil, List.length_cons, List.length_nil, List.cons_append, List.nil_append, Nat.reduceAdd, Nat.reduceSub, List.replicate, evalB, evalS, evalE, evalT, evalA, evalR, evalO, evalI, evalC, List.getElem?_cons_zero, List.getElem?_cons_succ, List.set_cons_zero, List.set_cons_succ, bind_ok, st_ok, seq_nx, seq_rt, seq_bk, seq_ct, of_some, ofS_some, ofB_some, bi_int, bi_lenT, bi_lenL, bi_lenR, bi_tupL, bi_tupR, bi_lens, bi_str, bi_ints, bin_add, bin_sub, bin_mul, bin_fdiv, bin_mod, bin_adds, bin_addt, bin_pow, Int.reduceLT, Int.reduceLE, Int.reduceAbs, Nat.reduceLT, Nat.reduceLeDiff, cmpRV, rdSeq, rdList, myList, ixRV, sl_str, isi_int_non, isi_int_bool, isi_int_int, isi_int_str, isi_int_tup, isi_bool_non, isi_bool_bool, isi_bool_int, isi_bool_str, isi_bool_tup, isi_str_non, isi_str_bool, isi_str_int, isi_str_str, isi_str_tup, isi_tuple_non, isi_tuple_bool, isi_tuple_int, isi_tuple_str, isi_tuple_tup, isi_list_non, isi_list_bool, isi_list_int, isi_list_str, isi_list_tup, isi_dict_non, isi_dict_bool, isi_dict_int, isi_dict_str, isi_dict_tup, isn_non, isn_bool, isn_int, isn_str, isn_tup, isb_true_non, isb_true_int, isb_true_str, isb_true_tup, isb_true_true, isb_true_false, isb_false_non, isb_false_int, isb_false_str, isb_false_tup, isb_false_true, isb_false_false, truthy, settle, bindT, bindTs, unpk, recv, isLst, isTxt, sz0, sz1, sz2, sz3, sz4, sz5, sz6, Option.map_some, if_true, if_false, Bool.false_eq_true, eqRV_int, Bool.not_true, Bool.not_false, forget, hv, W, tx, sh, rd, s1, s2]
      exact ⟨_, _, _, _, _, rfl, rfl⟩
    · rintro y ys env S' ⟨u, d', rfl, rfl, hu1, hu2, hu3⟩
      refine ⟨rfl, _, _, rfl, ?_⟩
      simp only [bd_law_1, decide_true, decide_false, enter, List.map_cons, List.map_nil, List.length_cons, List.length_nil, List.cons_append, List.nil_append, Nat.reduceAdd, Nat.reduceSub, List.replicate, evalB, evalS, evalE, evalT, evalA, evalR, evalO, evalI, evalC, List.getElem?_cons_zero, List.getElem?_cons_succ, List.set_cons_zero, List.set_cons_succ, bind_ok, st_ok, seq_nx, seq_rt, seq_bk, seq_ct, of_some, ofS_some, ofB_some, bi_int, bi_lenT, bi_lenL, bi_lenR, bi_tupL, bi_tupR, bi_lens, bi_str, bi_ints, bin_add, bin_sub, bin_mul, bin_fdiv, bin_mod, bin_adds, bin_addt, bin_pow, Int.reduceLT, Int.reduceLE, Int.reduceAbs, Nat.reduceLT, Nat.reduceLeDiff, cmpRV, rdSeq, rdList, myList, ixRV, sl_str, isi_int_non, isi_int_bool, isi_int_int, isi_int_str, isi_int_tup, isi_bool_non, isi_bool_bool, isi_bool_int, isi_bool_str, isi_bool_tup, isi_str_non, isi_str_bool, isi_str_int, isi_str_str, isi_str_tup, isi_tuple_non, isi_tuple_bool, isi_tuple_int, isi_tuple_str, isi_tuple_tup, isi_list_non, isi_list_bool, isi_list_int, isi_list_str, isi_list_tup, isi_dict_non, isi_dict_bool, isi_dict_int, isi_dict_str, isi_dict_tup, isn_non, isn_bool, isn_int, isn_str, isn_tup, isb_true_non, isb_true_int, isb_true_str, isb_true_tup, isb_true_true, isb_true_false, isb_false_non, isb_false_int, isb_false_str, isb_false_tup, isb_false_true, isb_false_false, truthy, settle, bindT, bindTs, unpk, recv, isLst, isTxt, sz0, sz1, sz2, sz3, sz4, sz5, sz6, Option.map_some, if_true, if_false, Bool.false_eq_true, eqRV_int, Bool.not_true, Bool.not_false, forget]
      simp only [List.length_cons] at hu2 hu3
      refine ⟨.tup [u], some y, rfl, by trivial, ?_, ?_, ?_⟩
      · show (plain u && true) = true
        rw [hu1]; rfl
      · show max (nest u) 0 + 1 + ys.length ≤ 40
        omega
      · show (40 :: (pT u ++ [41])).length + 2 * ys.length ≤ 3000
        simp
        omega
    · rintro env S' ⟨u, d', rfl, rfl, hu1, hu2, hu3⟩
      exact ⟨rfl, u, d', rfl, hu1, by simpa using hu2, by simpa using hu3⟩
    · have := G.ne
      rw [range_length]
      simp
      omega
    · have := G.le
      rw [bd4] at this
      rw [range_length]
      simp
      omega
end Deep

set_option Elab.async false
set_option linter.all false
set_option maxRecDepth 100000
set_option maxHeartbeats 0
namespace Deep
open PySem PySem.Spec PyProof.Rows L2
abbrev R : PySem.W.OpenRow := PySem.W.OpenLaw.row PySem.Challenge.rw_endhold_k17_plain_there_and_back
abbrev hk : PySem.W.Hook := He.hookD 5 (deepFa tab gs) (deepFn tab)
def ob (s : PySem.W.SharedT) : He.AlD := He.obsDG 5 (deepFa tab gs) (deepFn tab) (HandSHeadRun.getT s)
theorem ob_eq (s : PySem.W.SharedT) : ob s = hk.obs s.abs := He.obsDG_eq (HandSHeadRun.getT_eq s)
def lo1 : List Str := ["EndError", "BadPlain", "FIGURES", "MOST_FIGURES", "MOST_BRACKETS", "show_plain", "quoted", "read_plain", "value_at", "integer_at", "text_at", "tuple_at", "_law_cell", "_law_digits", "_law_draw", "_law_same", "_law_plain", "_law_value"]
theorem run (w : World) : HandSHeadRun.RunEq R (PySem.W.view R.prog [21]) hk ob 2000 lo1 w := by
  intro os
  kernel_rfl
end Deep
open PySem PySem.W PySem.Calls PyProof.Rows Deep
theorem PySem.Challenge.cw_endhold_k17_plain_there_and_back_holds : PySem.Challenge.rw_endhold_k17_plain_there_and_back.Holds := by
  w_on; o_law
  refine HandSHeadRun.head_any (r := R) (q := PySem.W.view R.prog [21]) (H := hk) (ob := ob) (M := 2000) (loose := lo1) (d := HandSHeadRun.topDef R.prog 21) (kwd := []) ob_eq
    (by kernel_rfl) (fun s => by kernel_rfl) Deep.run (by kernel_rfl) (by kernel_rfl) (by kernel_rfl) (by rfl) (by first | assumption | decide +kernel) (by decide +kernel) ⟨rfl, rfl, rfl, rfl, rfl, by decide +kernel⟩ ?hw ?hc
  case hw => w_witness2
  case hc => exact deep_walk (l := PySem.Challenge.rw_endhold_k17_plain_there_and_back) (k := 150) (fuel := 100000) (e := en_law) (by kernel_rfl) (by kernel_rfl) ⟨rfl, by decide, by decide⟩ (by kernel_rfl) (by decide +kernel) tab_ok (by kernel_rfl) (by kernel_rfl) (by kernel_rfl) law_run

